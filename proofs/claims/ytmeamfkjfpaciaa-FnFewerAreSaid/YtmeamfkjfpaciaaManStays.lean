/- impl.stays, and the functions over it; impl.BothOf, impl.insideNot, impl.splitOf: closures and calls; no condition but that the rows can be read and have 21 entries at least. -/
import Derived.Test.YtmeamfkjfpaciaaManHolds
namespace Go.Proofs.Ytmeamfkjfpaciaa.Man
open Go.RowKit Go.Proofs.Ytmeamfkjfpaciaa.PA Go.Proofs.YtmeamfkjfpaciaaW.PrintWords Go.Proofs.YtmeamfkjfpaciaaW.PrintLast Go.Proofs.YtmeamfkjfpaciaaW.PrintMore
set_option linter.unusedVariables false
set_option linter.unusedSimpArgs false

/-- Does a triangle hold at a place? -/
def hB (l : List Int) (a s : Nat) : Bool := rd l (pl a s) == 1
/-- What stays answers. -/
def badIn (l : List Int) (p : Nat → Nat → Bool) (i : Nat) : Nat → Bool
  | 0 => false
  | j + 1 => badIn l p i j || (hB l i j && !p i j)
def badTo (l : List Int) (p : Nat → Nat → Bool) : Nat → Bool
  | 0 => false
  | i + 1 => badTo l p i || badIn l p i (i + 1)
def stayB (l : List Int) (p : Nat → Nat → Bool) : Bool := !badTo l p 6
theorem badIn_mono {l : List Int} {p : Nat → Nat → Bool} {i : Nat} : ∀ {j k : Nat}, j ≤ k → badIn l p i j = true → badIn l p i k = true
  | j, 0, h, hb => by
    obtain rfl : j = 0 := by omega
    exact hb
  | j, k + 1, h, hb => by
    by_cases e : j = k + 1
    · rw [← e]; exact hb
    · rw [badIn, badIn_mono (show j ≤ k by omega) hb]; rfl
theorem badTo_mono {l : List Int} {p : Nat → Nat → Bool} : ∀ {j k : Nat}, j ≤ k → badTo l p j = true → badTo l p k = true
  | j, 0, h, hb => by
    obtain rfl : j = 0 := by omega
    exact hb
  | j, k + 1, h, hb => by
    by_cases e : j = k + 1
    · rw [← e]; exact hb
    · rw [badTo, badTo_mono (show j ≤ k by omega) hb]; rfl
theorem bad_all {l : List Int} {p : Nat → Nat → Bool} {i j : Nat} (hi : i ≤ 5) (hj : j ≤ i) (h : hB l i j = true) (hp : p i j = false) : stayB l p = false := by
  have h1 : badIn l p i (j + 1) = true := by rw [badIn, h, hp]; simp
  have h2 : badTo l p (i + 1) = true := by rw [badTo, badIn_mono (show j + 1 ≤ i + 1 by omega) h1]; simp
  unfold stayB
  rw [badTo_mono (show i + 1 ≤ 6 by omega) h2]
  rfl

set_option maxHeartbeats 8000000 in
set_option maxRecDepth 100000 in
theorem stays (l : List Int) (p : Nat → Nat → Bool) (g : Nat) (lb : Array Value) (eg : ∀ args w, (callFunc g args).run Try.prog w = .ok (.enter g args) w) (w : World) (A : Option Addr) (c : Nat) (hr : Kd.C (Kd.int .i64) w A l.length l) (hl : 21 ≤ l.length)
    (hp : ∀ (W : World) (x y : Int) (a s : Nat), x = (a : Int) → y = (s : Int) → a ≤ 5 → s ≤ a → hB l a s = true → Below w.heap.size w W → Calls Try.prog g (#[.int .i64 x, .int .i64 y] ++ lb) W fun e w' => e = .returned (.bool (p a s)) ∧ Below W.heap.size W w') :
    Calls Try.prog 54 #[.slice A l.length c, .func (.func g) #[] lb] w fun e w' => e = .returned (.bool (stayB l p)) ∧ Below w.heap.size w w' := by
  have HP := Aside0.mk hp
  have HR := Aside0.mk hr
  have HL := Aside0.mk hl
  have HB := Aside0.mk (Below.refl w.heap.size w)
  clear hp hr hl
  go_enter Try.func54, Try.ntmps54
  go_wp2
  go_loopg [7] 6 (fun kq v7 w' => ∃ (i : Nat) (x : Int), v7 = .int .i64 x ∧ Aside0 (x = (i : Int)) ∧ Aside0 (i + kq = 6) ∧ Aside0 (badTo l p i = false) ∧ Aside0 (Below w.heap.size w w'))
  case atStart => exact ⟨0, 0, rfl, ⟨rfl⟩, ⟨rfl⟩, ⟨rfl⟩, HB⟩
  case round =>
    clear HB
    obtain ⟨i, x, rfl, HX, HI, HF, HB⟩ := hrel
    cases gk with
    | zero =>
      have hx := HX.out
      have hi := HI.out
      have c1 : decide (x < 6) = false := decide_eq_false (by omega)
      have ei : i = 6 := by omega
      clear hx hi
      go_wp2
      go_ret
      exact ⟨by unfold stayB; rw [← ei, HF.out]; rfl, HB.out⟩
    | succ k1 =>
      have hx := HX.out
      have hi := HI.out
      have c1 : decide (x < 6) = true := decide_eq_true (by omega)
      have hx1 : wrap64 (x + 1) = ((i + 1 : Nat) : Int) := by unfold wrap64; omega
      have HX1 := Aside0.mk hx1; clear hx1
      have HI5 := Aside0.mk (show i ≤ 5 by omega)
      clear hx hi
      go_wp2
      go_loopg [12] (i + 1) (fun kq2 v12 w' => ∃ (j : Nat) (y : Int), v12 = .int .i64 y ∧ Aside0 (y = (j : Int)) ∧ Aside0 (j + kq2 = i + 1) ∧ Aside0 (badIn l p i j = false) ∧ Aside0 (Below w.heap.size w w'))
      case atStart => exact ⟨0, 0, rfl, ⟨rfl⟩, ⟨Nat.zero_add _⟩, ⟨rfl⟩, HB⟩
      case round =>
        clear HB
        obtain ⟨j, y, rfl, HY, HJ, HG, HB⟩ := hrel
        cases gk with
        | zero =>
          have c2 : decide (y < wrap64 (x + 1)) = false := decide_eq_false (by rw [HX1.out, HY.out]; have := HJ.out; omega)
          have ej : j = i + 1 := by have := HJ.out; omega
          have HN := Aside0.mk (show badTo l p (i + 1) = false by rw [badTo, HF.out, ← ej, HG.out]; rfl)
          go_wp2
          go_roundg k1
          case measure => have := HI.out; omega
          case rel => exact ⟨i + 1, wrap64 (x + 1), rfl, HX1, ⟨by have := HI.out; omega⟩, HN, HB⟩
        | succ k2 =>
          have c2 : decide (y < wrap64 (x + 1)) = true := decide_eq_true (by rw [HX1.out, HY.out]; have := HJ.out; omega)
          have hy1 : wrap64 (y + 1) = ((j + 1 : Nat) : Int) := by have := HY.out; have := HJ.out; have := HI5.out; unfold wrap64; omega
          have HY1 := Aside0.mk hy1; clear hy1
          have HH := Aside0.mk (holdsC A c l wr (Kd.C_below HR.out HB.out) x y i j HX.out HY.out HI5.out (by have := HJ.out; omega) HL.out)
          have HC := Aside0.mk (fun W (hh : hB l i j = true) (hb : Below w.heap.size w W) => HP.out W x y i j HX.out HY.out HI5.out (by have := HJ.out; omega) hh hb)
          have HST := Aside0.mk (fun (h : hB l i j = true) (hq : p i j = false) => bad_all HI5.out (show j ≤ i by have := HJ.out; omega) h hq)
          obtain ⟨h, hh⟩ : ∃ h, h = hB l i j := ⟨_, rfl⟩
          have HHE := Aside0.mk hh
          rw [show (rd l (pl i j) == 1) = h from hh.symm] at HH
          clear hh
          have out : ∀ b : Bool, badIn l p i j = false → (h && !b) = false → b = p i j ∨ h = false → Aside0 (badIn l p i (j + 1) = false) := fun b h1 h2 h3 => ⟨by
            rw [badIn, h1, ← HHE.out]
            rcases h3 with rfl | rfl
            · rw [h2]; rfl
            · rfl⟩
          cases h with
          | false =>
            have HN := out true HG.out rfl (Or.inr rfl)
            clear out
            go_wp2_with (first | (go_at_call 34; refine HH.out.mono ?_; rintro e w2 ⟨rfl, hb_⟩; have HB2 := Aside0.mk (below_step HB.out hb_); clear hb_))
            go_roundg k2
            case measure => have := HJ.out; omega
            case rel => exact ⟨j + 1, wrap64 (y + 1), rfl, HY1, ⟨by have := HJ.out; omega⟩, HN, HB2⟩
          | true =>
            obtain ⟨q, hq⟩ : ∃ q, q = p i j := ⟨_, rfl⟩
            have HQ := Aside0.mk hq
            rw [← hq] at HC
            cases q with
            | true =>
              have HN := out true HG.out rfl (Or.inl hq)
              clear out hq
              go_wp2_with (first | (go_at_call 34; refine HH.out.mono ?_; rintro e w2 ⟨rfl, hb_⟩; have HB2 := Aside0.mk (below_step HB.out hb_); clear hb_) | (go_at_fn g; refine (HC.out _ HHE.out.symm HB2.out).mono ?_; rintro e w3 ⟨rfl, hb_⟩; have HB3 := Aside0.mk (below_step HB2.out hb_); clear hb_))
              go_roundg k2
              case measure => have := HJ.out; omega
              case rel => exact ⟨j + 1, wrap64 (y + 1), rfl, HY1, ⟨by have := HJ.out; omega⟩, HN, HB3⟩
            | false =>
              clear out hq
              go_wp2_with (first | (go_at_call 34; refine HH.out.mono ?_; rintro e w2 ⟨rfl, hb_⟩; have HB2 := Aside0.mk (below_step HB.out hb_); clear hb_) | (go_at_fn g; refine (HC.out _ HHE.out.symm HB2.out).mono ?_; rintro e w3 ⟨rfl, hb_⟩; have HB3 := Aside0.mk (below_step HB2.out hb_); clear hb_))
              go_ret
              exact ⟨by rw [HST.out HHE.out.symm HQ.out.symm]; rfl, HB3.out⟩
end Go.Proofs.Ytmeamfkjfpaciaa.Man
