/- What holds at a place of a triangle; no condition but that the row can be read. -/
import Derived.Test.YthodcgkhianecaaDoorManTriB
import Derived.Test.YthodcgkhianecaaDoorPAx21
namespace Go.Proofs.YthodcgkhianecaaDoor.Man
open Go.RowKit Go.Proofs.YthodcgkhianecaaDoor.PA Go.Proofs.YthodcgkhianecaaDoorW.PrintWords Go.Proofs.YthodcgkhianecaaDoorW.PrintLast Go.Proofs.YthodcgkhianecaaDoorW.PrintMore
set_option linter.unusedVariables false
set_option linter.unusedSimpArgs false

/-- The place of an entry. -/
def pl (a s : Nat) : Int := ((a * (a + 1) / 2 + s : Nat) : Int)
theorem pl_eq (a s : Nat) (ha : a ≤ 5) (hs : s ≤ a) : impl_placeOf.f (a : Int) (s : Int) = some (pl a s) := by
  have h1 : a = 0 ∨ a = 1 ∨ a = 2 ∨ a = 3 ∨ a = 4 ∨ a = 5 := by omega
  have h2 : s = 0 ∨ s = 1 ∨ s = 2 ∨ s = 3 ∨ s = 4 ∨ s = 5 := by omega
  rcases h1 with rfl | rfl | rfl | rfl | rfl | rfl <;> rcases h2 with rfl | rfl | rfl | rfl | rfl | rfl <;> first | (exfalso; omega) | (unfold impl_placeOf.f pl wrap64; rfl) | (unfold impl_placeOf.f pl wrap64; decide)
theorem pl_range (a s : Nat) (ha : a ≤ 5) (hs : s ≤ a) : 0 ≤ pl a s ∧ pl a s < 21 := by
  have h1 : a = 0 ∨ a = 1 ∨ a = 2 ∨ a = 3 ∨ a = 4 ∨ a = 5 := by omega
  have h2 : s = 0 ∨ s = 1 ∨ s = 2 ∨ s = 3 ∨ s = 4 ∨ s = 5 := by omega
  rcases h1 with rfl | rfl | rfl | rfl | rfl | rfl <;> rcases h2 with rfl | rfl | rfl | rfl | rfl | rfl <;> first | decide | (exfalso; omega)
theorem below_drawnN {W W' : World} (h : Drawn0 W W') : Below W.heap.size W W' := by
  obtain ⟨nd, rfl⟩ := h
  apply pw_below_drewN
  exact Below.refl _ _

set_option maxHeartbeats 2000000 in
set_option maxRecDepth 100000 in
theorem holdsC (A : Option Addr) (c : Nat) (l : List Int) (W : World) (r : Kd.C (Kd.int .i64) W A l.length l) (x y : Int) (a s : Nat) (hx : x = (a : Int)) (hy : y = (s : Int)) (ha : a ≤ 5) (hs : s ≤ a) (hl : 21 ≤ l.length) :
    Calls Tryd.prog 35 #[.slice A l.length c, .int .i64 x, .int .i64 y] W fun e w' => e = .returned (.bool (rd l (pl a s) == 1)) ∧ Below W.heap.size W w' := by
  have hp := pl_range a s ha hs
  have HP := Aside0.mk (fun W => impl_placeOf.calls x y (pl a s) W (by rw [hx, hy]; exact pl_eq a s ha hs))
  generalize pl a s = p at hp HP ⊢
  have p0 : 0 ≤ p := hp.1
  have p9 : p < (l.length : Int) := by omega
  obtain ⟨ad, e2, x2⟩ := Kd.at_int r p p0 p9
  cases e2
  have p1 := eq_true p0
  have p2 := eq_true p9
  have p3 := decide_eq_true p0
  have p4 := decide_eq_true p9
  have XC := Aside0.mk (show W.cell? (ad.add p.toNat) = some (.int .i64 (rd l p)) from x2)
  clear r hx hy ha hs hl hp x2 p0 p9
  go_enter Tryd.func35, Tryd.ntmps35
  go_wp2_with (first | (go_at_call 32; refine (HP.out _).mono ?_; rintro e w2 ⟨rfl, hd_⟩; have hb_ := below_drawnN hd_; have HB2 := Aside0.mk hb_; have x2_ : w2.cell? (ad.add p.toNat) = some (.int .i64 (rd l p)) := (hb_.cell (World.block_lt_of_cell? _ _ XC.out)).trans XC.out; clear hd_ hb_))
  go_ret
  exact ⟨rfl, HB2.out⟩

end Go.Proofs.YthodcgkhianecaaDoor.Man
