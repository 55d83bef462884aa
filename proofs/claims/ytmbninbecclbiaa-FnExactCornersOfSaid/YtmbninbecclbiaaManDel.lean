/- slices.Delete and slices.Min at rows of the call's own, by the library's own contracts; no condition but the rows' lengths. -/
import Derived.Test.YtmbninbecclbiaaPAx0
import Derived.Ground.NamesProg
import Derived.Ground.Names2Prog
import Derived.Shelf.Slices.Delete
import Derived.Shelf.Slices.Turned
import Derived.Lib.OwnBridge
namespace Go.Proofs
open Go.Shelf
def Ytmbninbecclbiaa.layDel_ren : Go.Shelf.Ren := ⟨fun | 23 => 87 | n => n, fun | 22 => 35 | 3 => 3 | 4 => 4 | 0 => 0 | n => n, fun | n => n⟩
theorem Ytmbninbecclbiaa.layDel : Go.Proofs.Lays2.n23 Try.prog Ytmbninbecclbiaa.layDel_ren := {
  mixed := by kernel_rfl
  f23 := Try.func87.trans (congrArg some (by kernel_rfl))
  t0 := Try.underlying0
  a0 := Try.isAgg0
  z0 := Try.sizeOf0
  v0 := Try.zeroValue0
  t3 := Try.underlying3
  a3 := Try.isAgg3
  z3 := Try.sizeOf3
  v3 := Try.zeroValue3
  t4 := Try.underlying4
  a4 := Try.isAgg4
  z4 := Try.sizeOf4
  v4 := Try.zeroValue4
  t22 := Try.underlying35
  a22 := Try.isAgg35
  z22 := Try.sizeOf35
  v22 := Try.zeroValue35
  i3 := by kernel_rfl }
def Ytmbninbecclbiaa.layMin_ren : Go.Shelf.Ren := ⟨fun | 114 => 82 | n => n, fun | 28 => 35 | 3 => 3 | 4 => 4 | 9 => 9 | 20 => 20 | 0 => 0 | n => n, fun | n => n⟩
theorem Ytmbninbecclbiaa.layMin : Go.Proofs.Lays.n114 Try.prog Ytmbninbecclbiaa.layMin_ren := {
  mixed := by kernel_rfl
  f114 := Try.func82.trans (congrArg some (by kernel_rfl))
  t0 := Try.underlying0
  a0 := Try.isAgg0
  z0 := Try.sizeOf0
  v0 := Try.zeroValue0
  t3 := Try.underlying3
  a3 := Try.isAgg3
  z3 := Try.sizeOf3
  v3 := Try.zeroValue3
  t4 := Try.underlying4
  a4 := Try.isAgg4
  z4 := Try.sizeOf4
  v4 := Try.zeroValue4
  t9 := Try.underlying9
  a9 := Try.isAgg9
  z9 := Try.sizeOf9
  v9 := Try.zeroValue9
  t20 := Try.underlying20
  a20 := Try.isAgg20
  z20 := Try.sizeOf20
  v20 := Try.zeroValue20
  t28 := Try.underlying35
  a28 := Try.isAgg35
  z28 := Try.sizeOf35
  v28 := Try.zeroValue35 }
end Go.Proofs
namespace Go.Proofs.Ytmbninbecclbiaa.Man
open Go.RowKit Go.Proofs.Ytmbninbecclbiaa.PA Go.Proofs.YtmbninbecclbiaaW.PrintWords Go.Proofs.YtmbninbecclbiaaW.PrintLast Go.Proofs.YtmbninbecclbiaaW.PrintMore
set_option linter.unusedVariables false
set_option linter.unusedSimpArgs false

theorem blk_beside {W : World} {g t : Nat} {cs : Array Value} (h : W.heap[g]? = some (.cells cs t (0, 0))) {b : Nat} (hb0 : b = W.heap.size) {w1 : World} (hb : Below W.heap.size W w1) (u0 u1 u2 : Value) : (((w1.setCell ⟨b, 0, none⟩ u0).setCell ⟨b, 1, none⟩ u1).setCell ⟨b, 2, none⟩ u2).heap[g]? = some (.cells cs t (0, 0)) := by
  have hne : g ≠ b := by have := blk_lt h; omega
  exact (Below.heap_setCell _ ⟨b, 2, none⟩ _ g hne).trans ((Below.heap_setCell _ ⟨b, 1, none⟩ _ g hne).trans ((Below.heap_setCell _ ⟨b, 0, none⟩ _ g hne).trans (blk_below h hb)))
theorem below_beside {w W : World} (h : Below w.heap.size w W) {b : Nat} (hb0 : b = W.heap.size) {w1 : World} (hb : Below W.heap.size W w1) (u0 u1 u2 : Value) : Below w.heap.size w (((w1.setCell ⟨b, 0, none⟩ u0).setCell ⟨b, 1, none⟩ u1).setCell ⟨b, 2, none⟩ u2) := by
  have hle : w.heap.size ≤ b := by have := below_size h; omega
  exact below_set (below_set (below_set (below_step h hb) hle) hle) hle
theorem below_one {W w1 : World} {b : Nat} (hb0 : b = W.heap.size) (hb : Below W.heap.size W w1) (v : Value) : Below W.heap.size W (w1.setCell ⟨b, 0, none⟩ v) := below_set hb (Nat.le_of_eq hb0.symm)
theorem take_drop_one (xs : List Int) (n : Nat) (hl : xs.length = 4) (hn : n < 4) : (xs.take n ++ xs.drop (n + 1) ++ List.replicate (n + 1 - n) (0 : Int)).length = 4 ∧ (xs.take n ++ xs.drop (n + 1) ++ List.replicate (n + 1 - n) (0 : Int)).take 3 = xs.eraseIdx n := by
  refine ⟨by simp; omega, ?_⟩
  rw [List.eraseIdx_eq_take_drop_succ, List.take_append_of_le_length (by simp; omega), List.take_of_length_le (by simp; omega)]
/-- One element is cut out of a row of four. -/
theorem deleteR (W : World) (base : Nat) (ok : Nat → Prop) (v : Value) (xs : List Int) (n : Nat) (x y : Int) (hR : Kd.R (Kd.int .i64) 3 W base ok v xs) (hl : xs.length = 4) (hn : n < 4) (hx : x = (n : Int)) (hy : y = ((n + 1 : Nat) : Int)) :
    Calls Try.prog 87 #[v, .int .i64 x, .int .i64 y] W fun e w' => ∃ g cap, e = .returned (.slice (some ⟨g, 0, none⟩) 3 cap) ∧ Kd.R (Kd.int .i64) 3 w' base ok (.slice (some ⟨g, 0, none⟩) 3 cap) (xs.eraseIdx n) ∧ (∀ w0 : World, base = w0.heap.size → Below base w0 W → Below base w0 w') ∧ ∀ k, some k ≠ v.ownBlock → w'.heap[k]? = W.heap[k]? := by
  have ho := Kd.own_of_R hR
  have h0 := hR.1
  obtain ⟨g, cap, rfl, hb, hlt, hc, hm, _, hH⟩ := Go.Lib.holds_of_ownsRow (zs := xs) ho (by
    intro e
    obtain ⟨_, _, e', _⟩ := Kd.R_form hR (by omega)
    rw [e'] at e
    cases e)
  subst hx hy
  rw [hl] at ho
  refine (show Calls Try.prog 87 _ _ _ from Any.slices_Delete_int Go.Proofs.Ytmbninbecclbiaa.layDel g 0 cap n (n + 1) xs W hH (by omega) (by have := hm; unfold maxLen at this; omega) (by omega) (by omega)).mono ?_
  rintro e w' ⟨rfl, q, rfl⟩
  have ht := take_drop_one xs n hl hn
  have h2 := Go.Lib.ownsRow_putRow (q := q) (k := 3) ho ht.1 (by omega)
  rw [ht.2] at h2
  have hl3 : (xs.eraseIdx n).length = 3 := by rw [List.length_eraseIdx, if_pos (by omega), hl]
  rw [show xs.length - (n + 1 - n) = 3 by omega]
  refine ⟨g, cap, rfl, Kd.R_of_own (by rw [hl3]; exact h2) (fun k hk => h0 k hk), fun w0 e0 hbw => by subst e0; exact Go.Lib.below_putRow hbw hb, fun k hk => ?_⟩
  have : g ≠ k := fun e => hk (by rw [e]; rfl)
  simp [Go.Sort.putRow, Go.Sort.mapBlock, Go.Sort.ahead, Array.getElem?_modify, this]
theorem cells3 {W : World} {base : Nat} {ok : Nat → Prop} {g cap : Nat} {l : List Int} (h : Kd.R (Kd.int .i64) 3 W base ok (.slice (some ⟨g, 0, none⟩) 3 cap) l) : W.cell? ⟨g, 0, none⟩ = some (.int .i64 (rd l 0)) ∧ W.cell? ⟨g, 1, none⟩ = some (.int .i64 (rd l 1)) ∧ W.cell? ⟨g, 2, none⟩ = some (.int .i64 (rd l 2)) := by
  obtain ⟨hl, _, hC⟩ := Kd.R_reads' h
  rw [← hl] at hC
  obtain ⟨a0, e0, h0⟩ := Kd.at_int hC 0 (by omega) (by omega)
  obtain ⟨a1, e1, h1⟩ := Kd.at_int hC 1 (by omega) (by omega)
  obtain ⟨a2, e2, h2⟩ := Kd.at_int hC 2 (by omega) (by omega)
  cases e0
  cases e1
  cases e2
  exact ⟨h0, h1, h2⟩
theorem ix0 (A0 A1 A2 : Option Addr) (n0 n1 n2 c0 c1 c2 : Nat) (W : World) : Sem.run Try.prog (Instr.index 75 (.agg #[.slice A0 n0 c0, .slice A1 n1 c1, .slice A2 n2 c2]) (.int .i64 0)) W = .ok (.slice A0 n0 c0) W := by kernel_rfl
theorem ix1 (A0 A1 A2 : Option Addr) (n0 n1 n2 c0 c1 c2 : Nat) (W : World) : Sem.run Try.prog (Instr.index 75 (.agg #[.slice A0 n0 c0, .slice A1 n1 c1, .slice A2 n2 c2]) (.int .i64 1)) W = .ok (.slice A1 n1 c1) W := by kernel_rfl
theorem ix2 (A0 A1 A2 : Option Addr) (n0 n1 n2 c0 c1 c2 : Nat) (W : World) : Sem.run Try.prog (Instr.index 75 (.agg #[.slice A0 n0 c0, .slice A1 n1 c1, .slice A2 n2 c2]) (.int .i64 2)) W = .ok (.slice A2 n2 c2) W := by kernel_rfl
/-- The least of a row. -/
theorem minR (W : World) (base : Nat) (ok : Nat → Prop) (v : Value) (xs : List Int) (hR : Kd.R (Kd.int .i64) 3 W base ok v xs) (hl : xs.length = 4) :
    Calls Try.prog 82 #[v] W fun e w' => e = .returned (.int .i64 (Go.Lib.minOf xs)) ∧ w' = W := by
  have ho := Kd.own_of_R hR
  obtain ⟨g, cap, rfl, hb, hlt, hc, hm, _, hH⟩ := Go.Lib.holds_of_ownsRow (zs := xs) ho (by
    intro e
    obtain ⟨_, _, e', _⟩ := Kd.R_form hR (by omega)
    rw [e'] at e
    cases e)
  have h := Any.slices_Min_int Go.Proofs.Ytmbninbecclbiaa.layMin g 0 xs.length cap xs W (by omega) (by omega) (by omega) (fun j hj => by
    have := (hH j (by simpa using hj)).1
    rw [this, getElem!_pos _ j (by simpa using hj)]
    simp [List.getD_eq_getElem?_getD, hj])
  rw [List.take_length] at h
  exact h
end Go.Proofs.Ytmbninbecclbiaa.Man
