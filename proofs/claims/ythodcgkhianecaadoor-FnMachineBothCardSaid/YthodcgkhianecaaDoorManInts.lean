/- slices.IndexFunc and slices.ContainsFunc over a row of numbers, for every predicate that may lay blocks of its own; no condition but the row and the predicate's own contract. -/
import Derived.Test.YthodcgkhianecaaDoorPAx0
import Derived.Shelf.Abstract
namespace Go.Proofs.YthodcgkhianecaaDoor.ManI
open Go.RowKit Go.Proofs.YthodcgkhianecaaDoor.PA Go.Proofs.YthodcgkhianecaaDoorW.PrintWords Go.Proofs.YthodcgkhianecaaDoorW.PrintLast Go.Proofs.YthodcgkhianecaaDoorW.PrintMore
set_option linter.unusedVariables false
set_option linter.unusedSimpArgs false

/-- Where the first element is of which p holds; -1. -/
def idx {α : Type} (p : α → Bool) : List α → Nat → Int
  | [], _ => -1
  | x :: l, i => if p x = true then (i : Int) else idx p l (i + 1)

theorem idx_any {α : Type} (p : α → Bool) (l : List α) (i : Nat) : decide (0 ≤ idx p l i) = l.any p := by
  induction l generalizing i with
  | nil => rfl
  | cons x l ih =>
    rw [idx, List.any_cons]
    by_cases h : p x = true
    · rw [if_pos h, h]; simp
    · rw [if_neg h, ih, Bool.eq_false_iff.mpr h]; rfl

/-- What is asked of a predicate on numbers. -/
def PredInt (g : Nat) (lb : Array Value) (p : Int → Bool) (w : World) (l : List Int) : Prop :=
  ∀ (W : World) (x : Int), x ∈ l → Below w.heap.size w W → Calls Tryd.prog g (#[.int .i64 x] ++ lb) W fun e w' => e = .returned (.bool (p x)) ∧ Below W.heap.size W w'

set_option maxHeartbeats 4000000 in
theorem IndexFunc (p : Int → Bool) (g : Nat) (lb : Array Value) (eg : ∀ args w, (callFunc g args).run Tryd.prog w = .ok (.enter g args) w) (A : Option Addr) (c : Nat) (l : List Int) (w : World)
    (hp : PredInt g lb p w l) (hr : Kd.C (Kd.int .i64) w A l.length l) :
    Calls Tryd.prog 62 #[.slice A l.length c, .func (.func g) #[] lb] w fun e w' => e = .returned (.int .i64 (idx p l 0)) ∧ Below w.heap.size w w' := by
  have HR := Aside0.mk hr
  have HB := Aside0.mk (Below.refl w.heap.size w)
  have HP := Aside0.mk hp
  have hlen : l.length ≤ 9223372036854775807 := hr.2.1
  clear hr hp
  go_enter Tryd.func62, Tryd.ntmps62
  go_wp2
  go_loopg [5, 8] l.length (fun gg _ s8 wr => ∃ kk : Nat, kk ≤ l.length ∧ l.length - kk ≤ gg ∧ s8 = .int .i64 kk ∧ Aside0 (Below w.heap.size w wr) ∧ Aside0 (idx p l 0 = idx p (l.drop kk) kk))
  case atStart => exact ⟨0, Nat.zero_le _, by omega, rfl, HB, ⟨rfl⟩⟩
  case round =>
    clear HB
    obtain ⟨kk, hkk, hg, rfl, HB, HI⟩ := hrel
    by_cases hlt : kk < l.length
    · have hltz : (kk : Int) < (l.length : Int) := by omega
      have hk0 : (0 : Int) ≤ (kk : Int) := by omega
      obtain ⟨ad, e1, x0⟩ := Kd.at_int HR.out (kk : Int) hk0 hltz
      cases e1
      simp only [Int.toNat_natCast] at x0
      replace x0 := (HB.out.cell (World.block_lt_of_cell? w _ x0)).trans x0
      have hd : l.drop kk = rd l (kk : Int) :: l.drop (kk + 1) := by
        rw [List.drop_eq_getElem_cons hlt]
        congr 1
        unfold rd
        rw [List.getD_eq_getElem?_getD, Int.toNat_natCast, List.getElem?_eq_getElem hlt]
        rfl
      have hcall := HP.out wr (rd l (kk : Int)) (List.mem_of_mem_drop (i := kk) (by rw [hd]; exact List.mem_cons_self)) HB.out
      have HC := Aside0.mk hcall
      rw [hd, idx] at HI
      clear hcall hd
      obtain ⟨y, hy⟩ : ∃ y, rd l (kk : Int) = y := ⟨_, rfl⟩
      rw [hy] at HC HI x0
      clear hy
      cases hq : p y with
      | true =>
        rw [hq] at HC HI
        clear hq
        go_wp2_with (go_at_fn g; refine HC.out.mono ?_; rintro e w' ⟨rfl, hb'⟩)
        go_ret
        exact ⟨by rw [HI.out]; simp, below_step HB.out hb'⟩
      | false =>
        rw [hq] at HC HI
        clear hq
        go_wp2_with (go_at_fn g; refine HC.out.mono ?_; rintro e w' ⟨rfl, hb'⟩)
        go_roundg (l.length - (kk + 1))
        case measure => omega
        case rel => exact ⟨kk + 1, by omega, by omega, by go_num, ⟨below_step HB.out hb'⟩, ⟨by rw [HI.out]; simp⟩⟩
    · have hltz : ¬ (kk : Int) < (l.length : Int) := by omega
      obtain rfl : kk = l.length := by omega
      go_wp2
      go_ret
      exact ⟨by rw [HI.out]; simp [idx], HB.out⟩

theorem ContainsFunc (p : Int → Bool) (g : Nat) (lb : Array Value) (eg : ∀ args w, (callFunc g args).run Tryd.prog w = .ok (.enter g args) w) (A : Option Addr) (c : Nat) (l : List Int) (w : World)
    (hp : PredInt g lb p w l) (hr : Kd.C (Kd.int .i64) w A l.length l) :
    Calls Tryd.prog 48 #[.slice A l.length c, .func (.func g) #[] lb] w fun e w' => e = .returned (.bool (l.any p)) ∧ Below w.heap.size w w' := by
  have HC := Aside0.mk (IndexFunc p g lb eg A c l w hp hr)
  have HI := Aside0.mk (idx_any p l 0)
  clear hp hr eg
  go_enter Tryd.func48, Tryd.ntmps48
  go_wp2_with (go_at_call 62; refine HC.out.mono ?_; rintro e w' ⟨rfl, hb'⟩)
  go_ret
  exact ⟨by rw [← HI.out]; rfl, hb'⟩
end Go.Proofs.YthodcgkhianecaaDoor.ManI
