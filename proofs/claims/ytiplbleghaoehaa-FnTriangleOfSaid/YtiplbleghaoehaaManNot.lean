/- impl.NotOf: what holds at a place, the closure, the calls; no condition but that the row can be read. -/
import Derived.Test.YtiplbleghaoehaaManTri
import Derived.Test.YtiplbleghaoehaaPAx10
import Derived.Test.YtiplbleghaoehaaPAx29
namespace Go.Proofs.Ytiplbleghaoehaa.Man
open Go.RowKit Go.Proofs.Ytiplbleghaoehaa.PA Go.Proofs.YtiplbleghaoehaaW.PrintWords Go.Proofs.YtiplbleghaoehaaW.PrintLast Go.Proofs.YtiplbleghaoehaaW.PrintMore
set_option linter.unusedVariables false
set_option linter.unusedSimpArgs false

/-- The place of an entry. -/
def pl (a s : Nat) : Int := ((a * (a + 1) / 2 + s : Nat) : Int)
theorem pl_eq (a s : Nat) (ha : a ≤ 5) (hs : s ≤ a) : impl_placeOf.f (a : Int) (s : Int) = some (pl a s) := by
  have h1 : a = 0 ∨ a = 1 ∨ a = 2 ∨ a = 3 ∨ a = 4 ∨ a = 5 := by omega
  have h2 : s = 0 ∨ s = 1 ∨ s = 2 ∨ s = 3 ∨ s = 4 ∨ s = 5 := by omega
  rcases h1 with rfl | rfl | rfl | rfl | rfl | rfl <;> rcases h2 with rfl | rfl | rfl | rfl | rfl | rfl <;> first | (exfalso; omega) | (unfold impl_placeOf.f pl wrap64; rfl) | (unfold impl_placeOf.f pl wrap64; decide)
theorem pl_range (a s : Nat) (ha : a ≤ 5) (hs : s ≤ a) : 0 ≤ pl a s ∧ pl a s < 21 := by
  have h1 : a = 0 ∨ a = 1 ∨ a = 2 ∨ a = 3 ∨ a = 4 ∨ a = 5 := by omega
  have h2 : s = 0 ∨ s = 1 ∨ s = 2 ∨ s = 3 ∨ s = 4 ∨ s = 5 := by omega
  rcases h1 with rfl | rfl | rfl | rfl | rfl | rfl <;> rcases h2 with rfl | rfl | rfl | rfl | rfl | rfl <;> first | decide | (exfalso; omega)
theorem below_drawnN {W W' : World} (h : Drawn0 W W') : Below W.heap.size W W' := by
  obtain ⟨nd, rfl⟩ := h
  apply pw_below_drewN
  exact Below.refl _ _

set_option maxHeartbeats 2000000 in
set_option maxRecDepth 100000 in
theorem holdsC (A : Option Addr) (c : Nat) (l : List Int) (W : World) (r : Kd.C (Kd.int .i64) W A l.length l) (x y : Int) (a s : Nat) (hx : x = (a : Int)) (hy : y = (s : Int)) (ha : a ≤ 5) (hs : s ≤ a) (hl : 21 ≤ l.length) :
    Calls Try.prog 64 #[.slice A l.length c, .int .i64 x, .int .i64 y] W fun e w' => e = .returned (.bool (rd l (pl a s) == 1)) ∧ Below W.heap.size W w' := by
  have hp := pl_range a s ha hs
  have HP := Aside0.mk (fun W => impl_placeOf.calls x y (pl a s) W (by rw [hx, hy]; exact pl_eq a s ha hs))
  generalize pl a s = p at hp HP ⊢
  have p0 : 0 ≤ p := hp.1
  have p9 : p < (l.length : Int) := by omega
  obtain ⟨ad, e2, x2⟩ := Kd.at_int r p p0 p9
  cases e2
  have p1 := eq_true p0
  have p2 := eq_true p9
  have p3 := decide_eq_true p0
  have p4 := decide_eq_true p9
  have XC := Aside0.mk (show W.cell? (ad.add p.toNat) = some (.int .i64 (rd l p)) from x2)
  clear r hx hy ha hs hl hp x2 p0 p9
  go_enter Try.func64, Try.ntmps64
  go_wp2_with (first | (go_at_call 41; refine (HP.out _).mono ?_; rintro e w2 ⟨rfl, hd_⟩; have hb_ := below_drawnN hd_; have HB2 := Aside0.mk hb_; have x2_ : w2.cell? (ad.add p.toNat) = some (.int .i64 (rd l p)) := (hb_.cell (World.block_lt_of_cell? _ _ XC.out)).trans XC.out; clear hd_ hb_))
  go_ret
  exact ⟨rfl, HB2.out⟩

/-- The closure. -/
def notP (l : List Int) (a s : Nat) : Bool := !(rd l (pl a s) == 1)
set_option maxHeartbeats 2000000 in
set_option maxRecDepth 100000 in
theorem not1 (B : Nat) (A : Option Addr) (c : Nat) (l : List Int) (W : World) (hbk : W.heap[B]? = some (.cells #[.slice A l.length c] 24 (0, 0))) (r : Kd.C (Kd.int .i64) W A l.length l) (x y : Int) (a s : Nat) (hx : x = (a : Int)) (hy : y = (s : Int)) (ha : a ≤ 5) (hs : s ≤ a) (hl : 21 ≤ l.length) :
    Calls Try.prog 63 #[.int .i64 x, .int .i64 y, .pointer (some ⟨B, 0, none⟩)] W fun e w' => e = .returned (.bool (notP l a s)) ∧ Below W.heap.size W w' := by
  have HP := Aside0.mk (fun W r => holdsC A c l W r x y a s hx hy ha hs hl)
  have hc0 : W.cell? ⟨B, 0, none⟩ = some (.slice A l.length c) := (blk_cell hbk 0).trans rfl
  have R := Aside0.mk r
  clear hbk r hx hy ha hs hl
  go_enter Try.func63, Try.ntmps63
  go_wp2_with (first | (go_at_call 64; refine (HP.out _ R.out).mono ?_; rintro e w2 ⟨rfl, hb_⟩; have HB2 := Aside0.mk hb_; clear hb_))
  go_ret
  exact ⟨rfl, HB2.out⟩

set_option maxHeartbeats 2000000 in
set_option maxRecDepth 100000 in
theorem notOf (A : Option Addr) (c : Nat) (l : List Int) (w : World) (hr : Kd.C (Kd.int .i64) w A l.length l) (hl : 21 ≤ l.length) :
    Calls Try.prog 37 #[.slice A l.length c] w fun e w' => ∃ v, e = .returned v ∧ Kd.R (Kd.int .i64) 3 w' w.heap.size (fun _ => True) v (triRow (notP l)) ∧ Below w.heap.size w w' := by
  have eg := enters_of Try.func63 (by kernel_rfl) rfl
  have HB1 := Aside0.mk (below_alloc (Below.refl w.heap.size w) (.cells #[.slice A l.length c] 24))
  have HBK := Aside0.mk (blk_new w (.cells #[.slice A l.length c] 24))
  have HR := Aside0.mk hr
  clear hr
  have HT := Aside0.mk (fun W (bk : W.heap[w.heap.size]? = some (.cells #[.slice A l.length c] 24 (0, 0))) (hb : Below w.heap.size w W) => triangleBy (notP l) 63 #[.pointer (some ⟨w.heap.size, 0, none⟩)] eg W (fun V x y a s hx hy ha hs hv =>
    not1 w.heap.size A c l V (blk_below bk hv) (Kd.C_below HR.out (below_step hb hv)) x y a s hx hy ha hs hl))
  clear eg
  go_enter Try.func37, Try.ntmps37
  go_wp2_with (first | (go_at_call 28; refine (HT.out _ HBK.out HB1.out).mono ?_; rintro e w2 ⟨v, rfl, hv_, hb_⟩; have HV := Aside0.mk hv_; have HB2 := Aside0.mk (below_step HB1.out hb_); clear hv_ hb_))
  go_ret
  exact ⟨_, rfl, Kd.R_lower HV.out (below_size HB1.out), HB2.out⟩
end Go.Proofs.Ytiplbleghaoehaa.Man
