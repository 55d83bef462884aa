/- The law FnExactMachineBoth as a call: it answers true; no condition but that the rows can be read. -/
import Derived.Test.YtgaapfldimokpaaManRows
import Derived.Test.YtgaapfldimokpaaSemMark
import Derived.Test.YtgaapfldimokpaaSemBothI
import Derived.Test.YtgaapfldimokpaaSemMachSz
import Derived.Test.YtgaapfldimokpaaPAx7
import Derived.Test.YtgaapfldimokpaaPAx8
import Derived.Test.YtgaapfldimokpaaPAx13
import Derived.Test.YtgaapfldimokpaaPAx6
import Derived.Test.YtgaapfldimokpaaPAx15
import Derived.Test.YtgaapfldimokpaaPAx12
import Derived.Test.YtgaapfldimokpaaPAx10
namespace Go.Proofs.Ytgaapfldimokpaa.Man
open Go.RowKit Go.Proofs.Ytgaapfldimokpaa.PA Go.Proofs.YtgaapfldimokpaaW.PrintWords Go.Proofs.YtgaapfldimokpaaW.PrintLast Go.Proofs.YtgaapfldimokpaaW.PrintMore
set_option linter.unusedVariables false
set_option linter.unusedSimpArgs false

theorem sz_gen (a b c : List Int) (ba : a.length ≤ 9223372036854775807) (bb : b.length ≤ 9223372036854775807) (bc : c.length ≤ 9223372036854775807) (n : Int) (h0 : 0 ≤ n) (h1 : n ≤ 1048576) :
    ∃ t, laws_szMachine.f a b c n = some t ∧ (t < 0 ∨ (a.length ≤ 1048576 ∧ b.length ≤ 1048576 ∧ c.length ≤ 1048576 ∧ t ≤ 1048576)) := by
  unfold laws_szMachine.f
  rw [Sem.szIntS_eq a ba _ h0 h1, Option.bind_some]
  by_cases c1 : n < a.length
  · rw [if_pos c1]
    exact ⟨-1, rfl, Or.inl (by decide)⟩
  · rw [if_neg c1, if_neg (by omega), Sem.szIntS_eq b bb _ (by omega) (by omega), Option.bind_some]
    by_cases c2 : n - a.length < b.length
    · rw [if_pos c2]
      exact ⟨-1, rfl, Or.inl (by decide)⟩
    · rw [if_neg c2, if_neg (by omega), Sem.szIntS_eq c bc _ (by omega) (by omega), Option.bind_some]
      by_cases c3 : n - a.length - b.length < c.length
      · rw [if_pos c3]
        exact ⟨-1, rfl, Or.inl (by decide)⟩
      · rw [if_neg c3, if_neg (by omega)]
        exact ⟨_, rfl, Or.inr (by omega)⟩

section
variable {w W : World} {v0 v1 v2 u0 u1 u2 : Value} {l0 l1 l2 m0 m1 m2 n0 n1 n2 : List Int} {g k : Nat}
/-- What a call hands back that makes a machine. -/
def Gives (w W : World) (n0 n1 n2 : List Int) (e : Ending) (w' : World) : Prop := ∃ u0 u1 u2 : Value, e = .returned (.agg #[u0, u1, u2]) ∧ OM w w' u0 u1 u2 n0 n1 n2 ∧ (∀ k, Bl u0 u1 u2 k → W.heap.size ≤ k) ∧ Below W.heap.size W w'
theorem calls_to {A0 A1 A2 : Option Addr} {c0 c1 c2 : Nat} (hw : w.heap.size ≤ W.heap.size) (r0 : Kd.C (Kd.int .i64) W A0 l0.length l0) (q0 : l0.length ≤ c0) (r1 : Kd.C (Kd.int .i64) W A1 l1.length l1) (q1 : l1.length ≤ c1) (r2 : Kd.C (Kd.int .i64) W A2 l2.length l2) (q2 : l2.length ≤ c2)
    (h : laws_toMachine.f k l0 l1 l2 = some (l0, l1, l2)) : Calls Try.prog 15 #[.agg #[.slice A0 l0.length c0, .slice A1 l1.length c1, .slice A2 l2.length c2]] W (Gives w W l0 l1 l2) :=
  (laws_toMachine.calls k A0 c0 l0 A1 c1 l1 A2 c2 l2 l0 l1 l2 W r0 q0 r1 q1 r2 q2 h).mono (fun e w' ⟨u0, u1, u2, he, h0, h1, h2, hb⟩ => ⟨u0, u1, u2, he, (OM.made hw h0 h1 h2).1, (OM.made hw h0 h1 h2).2, hb⟩)
theorem calls_eq (o : OM w W v0 v1 v2 l0 l1 l2) (p : OM w W u0 u1 u2 l0 l1 l2) (h : laws_eqMachine.f k l0 l1 l2 l0 l1 l2 = some true) : Calls Try.prog 10 #[.agg #[v0, v1, v2], .agg #[u0, u1, u2]] W fun e w' => e = .returned (.bool true) ∧ Below W.heap.size W w' := by
  obtain ⟨A0, c0, A1, c1, A2, c2, rfl, rfl, rfl, q0, q1, q2, r0, r1, r2⟩ := o.reads
  obtain ⟨B0, d0, B1, d1, B2, d2, rfl, rfl, rfl, s0, s1, s2, t0, t1, t2⟩ := p.reads
  exact laws_eqMachine.calls k A0 c0 l0 A1 c1 l1 A2 c2 l2 B0 d0 l0 B1 d1 l1 B2 d2 l2 true W r0 q0 r1 q1 r2 q2 t0 s0 t1 s1 t2 s2 h
theorem calls_held {q : Int} (o : OM w W v0 v1 v2 l0 l1 l2) (h : laws_heldMachine.f k l0 l1 l2 1 = some q) : Calls Try.prog 12 #[.agg #[v0, v1, v2], .int .i64 1] W fun e w' => e = .returned (.int .i64 q) ∧ Below W.heap.size W w' := by
  obtain ⟨A0, c0, A1, c1, A2, c2, rfl, rfl, rfl, q0, q1, q2, r0, r1, r2⟩ := o.reads
  exact laws_heldMachine.calls k A0 c0 l0 A1 c1 l1 A2 c2 l2 1 q W r0 q0 r1 q1 r2 q2 h
theorem calls_mark {q a : Int} (hB : Below w.heap.size w W) (o : Mx w W g v0 v1 v2 l0 l1 l2) (h : laws_markMachine.f k l0 l1 l2 a = some (q, n0, n1, n2)) : Calls Try.prog 11 #[.agg #[v0, v1, v2], .int .i64 a] W fun e w' => e = .returned (.int .i64 q) ∧ Mx w w' g v0 v1 v2 n0 n1 n2 ∧ Below w.heap.size w w' ∧ Kept W w' (Bl v0 v1 v2) :=
  (laws_markMachine.calls k (fun k_ => some k_ = v0.ownBlock) v0 l0 (fun k_ => some k_ = v1.ownBlock) v1 l1 (fun k_ => some k_ = v2.ownBlock) v2 l2 a q n0 n1 n2 w W hB o.om.r0 o.om.n01 o.om.n02 o.om.r1 (fun k_ h1 h0 => o.om.n01 k_ h0 h1) o.om.n12 o.om.r2 (fun k_ h2 h0 => o.om.n02 k_ h0 h2) (fun k_ h2 h1 => o.om.n12 k_ h1 h2) h).mono
    (fun e w' ⟨he, h0, h1, h2, hb, hk⟩ => ⟨he, o.marked h0 h1 h2 hk, hb, hk⟩)
theorem OM.drew (h : OM w W v0 v1 v2 l0 l1 l2) : OM w W.drew v0 v1 v2 l0 l1 l2 := h.step (fun _ _ _ => rfl)
theorem OM.drewN (h : OM w W v0 v1 v2 l0 l1 l2) (n : Nat) : OM w (W.drewN n) v0 v1 v2 l0 l1 l2 := h.step (fun _ _ _ => rfl)
theorem OM.alloc (h : OM w W v0 v1 v2 l0 l1 l2) (o : Obj) : OM w (W.alloc o) v0 v1 v2 l0 l1 l2 := h.below (below_alloc (Below.refl _ _) o)
theorem Mx.alloc (h : Mx w W g v0 v1 v2 l0 l1 l2) (o : Obj) : Mx w (W.alloc o) g v0 v1 v2 l0 l1 l2 := h.below (below_alloc (Below.refl _ _) o)
/-- .. and a truth. -/
def Gives2 (w W : World) (n0 n1 n2 : List Int) (F : Bool) (e : Ending) (w' : World) : Prop := ∃ u0 u1 u2 : Value, e = .returned (.tuple #[.agg #[u0, u1, u2], .bool F]) ∧ OM w w' u0 u1 u2 n0 n1 n2 ∧ (∀ k, Bl u0 u1 u2 k → W.heap.size ≤ k) ∧ Below W.heap.size W w'
theorem calls_spec {F : Bool} (hw : w.heap.size ≤ W.heap.size) (o : OM w W v0 v1 v2 l0 l1 l2) (p : OM w W u0 u1 u2 m0 m1 m2) (h : spec_MachineBoth.f k l0 l1 l2 m0 m1 m2 = some (n0, n1, n2, F)) : Calls Try.prog 14 #[.agg #[v0, v1, v2], .agg #[u0, u1, u2]] W (Gives2 w W n0 n1 n2 F) := by
  obtain ⟨A0, c0, A1, c1, A2, c2, rfl, rfl, rfl, q0, q1, q2, r0, r1, r2⟩ := o.reads
  obtain ⟨B0, d0, B1, d1, B2, d2, rfl, rfl, rfl, s0, s1, s2, t0, t1, t2⟩ := p.reads
  exact (spec_MachineBoth.calls k A0 c0 l0 A1 c1 l1 A2 c2 l2 B0 d0 m0 B1 d1 m1 B2 d2 m2 n0 n1 n2 F W r0 q0 r1 q1 r2 q2 t0 s0 t1 s1 t2 s2 h).mono (fun e w' ⟨u0, u1, u2, he, h0, h1, h2, hb⟩ => ⟨u0, u1, u2, he, (OM.made hw h0 h1 h2).1, (OM.made hw h0 h1 h2).2, hb⟩)
theorem calls_impl {F : Bool} (hw : w.heap.size ≤ W.heap.size) (o : OM w W v0 v1 v2 l0 l1 l2) (p : OM w W u0 u1 u2 m0 m1 m2) (h : impl_MachineBoth.f k l0 l1 l2 m0 m1 m2 = some (n0, n1, n2, F)) : Calls Try.prog 16 #[.agg #[v0, v1, v2], .agg #[u0, u1, u2]] W (Gives2 w W n0 n1 n2 F) := by
  obtain ⟨A0, c0, A1, c1, A2, c2, rfl, rfl, rfl, q0, q1, q2, r0, r1, r2⟩ := o.reads
  obtain ⟨B0, d0, B1, d1, B2, d2, rfl, rfl, rfl, s0, s1, s2, t0, t1, t2⟩ := p.reads
  exact (impl_MachineBoth.calls k A0 c0 l0 A1 c1 l1 A2 c2 l2 B0 d0 m0 B1 d1 m1 B2 d2 m2 n0 n1 n2 F W r0 q0 r1 q1 r2 q2 t0 s0 t1 s1 t2 s2 h).mono (fun e w' ⟨u0, u1, u2, he, h0, h1, h2, hb⟩ => ⟨u0, u1, u2, he, (OM.made hw h0 h1 h2).1, (OM.made hw h0 h1 h2).2, hb⟩)
/-- A box that is there already is filled. -/
theorem OM.boxed2 (h : OM w W v0 v1 v2 l0 l1 l2) {b : Nat} {z0 z1 z2 : Value} (hbox : W.heap[b]? = some (.cells #[z0, z1, z2] 24 (0, 0))) :
    Mx w (((W.setCell ⟨b, 0, none⟩ v0).setCell ⟨b, 1, none⟩ v1).setCell ⟨b, 2, none⟩ v2) b v0 v1 v2 l0 l1 l2 := by
  have hx : ∀ k, k ≠ b → (((W.setCell ⟨b, 0, none⟩ v0).setCell ⟨b, 1, none⟩ v1).setCell ⟨b, 2, none⟩ v2).heap[k]? = W.heap[k]? := fun k hne =>
    (Below.heap_setCell _ ⟨b, 2, none⟩ _ k hne).trans ((Below.heap_setCell _ ⟨b, 1, none⟩ _ k hne).trans (Below.heap_setCell _ ⟨b, 0, none⟩ _ k hne))
  exact ⟨h.step (fun k hk _ => hx k (fun e => h.notbox hbox (by decide) (e ▸ hk))), blk_put (cs := #[v0, v1, z2]) (blk_put (cs := #[v0, z1, z2]) (blk_put (cs := #[z0, z1, z2]) hbox 0 _ rfl) 1 _ rfl) 2 _ rfl⟩
theorem Mx.beside2 (h : Mx w W g v0 v1 v2 l0 l1 l2) {b : Nat} {cs : Array Value} (hbox : W.heap[b]? = some (.cells cs 24 (0, 0))) (hne : g ≠ b) (z0 z1 z2 : Value) :
    Mx w (((W.setCell ⟨b, 0, none⟩ z0).setCell ⟨b, 1, none⟩ z1).setCell ⟨b, 2, none⟩ z2) g v0 v1 v2 l0 l1 l2 := by
  have hx : ∀ k, k ≠ b → (((W.setCell ⟨b, 0, none⟩ z0).setCell ⟨b, 1, none⟩ z1).setCell ⟨b, 2, none⟩ z2).heap[k]? = W.heap[k]? := fun k hne =>
    (Below.heap_setCell _ ⟨b, 2, none⟩ _ k hne).trans ((Below.heap_setCell _ ⟨b, 1, none⟩ _ k hne).trans (Below.heap_setCell _ ⟨b, 0, none⟩ _ k hne))
  exact ⟨h.om.step (fun k hk _ => hx k (fun e => h.om.notbox hbox (by decide) (e ▸ hk))), (hx g hne).trans h.bx⟩
theorem blk_beside2 {cs cs' : Array Value} {t : Nat} {g b : Nat} (h : W.heap[g]? = some (.cells cs t (0, 0))) (hne : g ≠ b) (z0 z1 z2 : Value) : (((W.setCell ⟨b, 0, none⟩ z0).setCell ⟨b, 1, none⟩ z1).setCell ⟨b, 2, none⟩ z2).heap[g]? = some (.cells cs t (0, 0)) :=
  (Below.heap_setCell _ ⟨b, 2, none⟩ _ g hne).trans ((Below.heap_setCell _ ⟨b, 1, none⟩ _ g hne).trans ((Below.heap_setCell _ ⟨b, 0, none⟩ _ g hne).trans h))
end

/-- The boxes of the two arguments, and that nothing below was touched. -/
structure PB (w : World) (x0 x1 x2 y0 y1 y2 : Value) (W : World) : Prop where
  a : W.heap[w.heap.size]? = some (.cells #[x0, x1, x2] 30 (0, 0))
  b : W.heap[w.heap.size + 1]? = some (.cells #[y0, y1, y2] 30 (0, 0))
  h : Below w.heap.size w W
section
variable {w W W' : World} {x0 x1 x2 y0 y1 y2 v0 v1 v2 : Value} {l0 l1 l2 : List Int}
theorem PB.below (p : PB w x0 x1 x2 y0 y1 y2 W) (hb : Below W.heap.size W W') : PB w x0 x1 x2 y0 y1 y2 W' := ⟨blk_below p.a hb, blk_below p.b hb, below_step p.h hb⟩
theorem PB.drew (p : PB w x0 x1 x2 y0 y1 y2 W) : PB w x0 x1 x2 y0 y1 y2 W.drew := ⟨blk_drew p.a, blk_drew p.b, below_drew1 p.h⟩
theorem PB.ne (p : PB w x0 x1 x2 y0 y1 y2 W) {b : Nat} (hb : b = W.heap.size) : w.heap.size ≠ b ∧ w.heap.size + 1 ≠ b ∧ w.heap.size ≤ b := by
  have := blk_lt p.b
  omega
theorem PB.fill (p : PB w x0 x1 x2 y0 y1 y2 W) {b : Nat} (n : w.heap.size ≠ b ∧ w.heap.size + 1 ≠ b ∧ w.heap.size ≤ b) (z0 z1 z2 : Value) : PB w x0 x1 x2 y0 y1 y2 (((W.setCell ⟨b, 0, none⟩ z0).setCell ⟨b, 1, none⟩ z1).setCell ⟨b, 2, none⟩ z2) :=
  ⟨blk_beside2 (cs' := #[]) p.a n.1 z0 z1 z2, blk_beside2 (cs' := #[]) p.b n.2.1 z0 z1 z2, below_set (below_set (below_set p.h n.2.2) n.2.2) n.2.2⟩
theorem PB.cells (p : PB w x0 x1 x2 y0 y1 y2 W) : W.cell? ⟨w.heap.size, 0, none⟩ = some x0 ∧ W.cell? ⟨w.heap.size, 1, none⟩ = some x1 ∧ W.cell? ⟨w.heap.size, 2, none⟩ = some x2 ∧ W.cell? ⟨w.heap.size + 1, 0, none⟩ = some y0 ∧ W.cell? ⟨w.heap.size + 1, 1, none⟩ = some y1 ∧ W.cell? ⟨w.heap.size + 1, 2, none⟩ = some y2 :=
  ⟨(blk_cell p.a 0).trans rfl, (blk_cell p.a 1).trans rfl, (blk_cell p.a 2).trans rfl, (blk_cell p.b 0).trans rfl, (blk_cell p.b 1).trans rfl, (blk_cell p.b 2).trans rfl⟩
theorem PB.kept (p : PB w x0 x1 x2 y0 y1 y2 W) (o : OM w W v0 v1 v2 l0 l1 l2) (hb : Below w.heap.size w W') (hk : Kept W W' (Bl v0 v1 v2)) : PB w x0 x1 x2 y0 y1 y2 W' :=
  ⟨(hk.2 _ (blk_lt p.a) (o.notbox p.a (by decide))).trans p.a, (hk.2 _ (blk_lt p.b) (o.notbox p.b (by decide))).trans p.b, hb⟩
theorem PB.mkx {g : Nat} (m : Mx w W g v0 v1 v2 l0 l1 l2) : W.cell? ⟨g, 0, none⟩ = some v0 ∧ W.cell? ⟨g, 1, none⟩ = some v1 ∧ W.cell? ⟨g, 2, none⟩ = some v2 := ⟨(blk_cell m.bx 0).trans rfl, (blk_cell m.bx 1).trans rfl, (blk_cell m.bx 2).trans rfl⟩
theorem apart {u0 u1 u2 : Value} (m : OM w W v0 v1 v2 l0 l1 l2) (fr : ∀ k, Bl u0 u1 u2 k → W.heap.size ≤ k) : ∀ k, Bl v0 v1 v2 k → ¬ Bl u0 u1 u2 k := fun k h h' => Nat.lt_irrefl _ (Nat.lt_of_lt_of_le (m.lt h) (fr k h'))
end
def lawBoth.T : Bool × List (List Nat × List Nat) := (true, [([], []), ([0], [0]), ([], []), ([2, 1], [2]), ([1, 3, 3], [1, 3]), ([4], [4]), ([5], [5]), ([5], [5]), ([], []), ([8, 6, 4, 0, 1, 2, 3, 4, 5, 6, 8], [6, 8]), ([7, 9, 0, 1, 2, 3, 4, 5, 6, 7, 8, 9], [7])])
def lawBoth.B : List Nat := [0, 1, 0, 7, 15, 31, 63, 63, 0, 383, 1023]
theorem lawBoth.tab8 : rtab .any (opsOf Try.f4 8) = lawBoth.T := by kernel_rfl
theorem lawBoth.tab31 : rtab .any (opsOf Try.f4 31) = lawBoth.T := by kernel_rfl
theorem lawBoth.bits : waitsOk lawBoth.T.2 lawBoth.B = true := by kernel_rfl

set_option maxHeartbeats 16000000 in
set_option maxRecDepth 100000 in
theorem lawBoth (A0 : Option Addr) (c0 : Nat) (l0 : List Int) (A1 : Option Addr) (c1 : Nat) (l1 : List Int) (A2 : Option Addr) (c2 : Nat) (l2 : List Int) (B0 : Option Addr) (d0 : Nat) (m0 : List Int) (B1 : Option Addr) (d1 : Nat) (m1 : List Int) (B2 : Option Addr) (d2 : Nat) (m2 : List Int) (w : World)
    (hr0 : Kd.C (Kd.int .i64) w A0 l0.length l0) (hc0 : l0.length ≤ c0) (hr1 : Kd.C (Kd.int .i64) w A1 l1.length l1) (hc1 : l1.length ≤ c1) (hr2 : Kd.C (Kd.int .i64) w A2 l2.length l2) (hc2 : l2.length ≤ c2)
    (kr0 : Kd.C (Kd.int .i64) w B0 m0.length m0) (kc0 : m0.length ≤ d0) (kr1 : Kd.C (Kd.int .i64) w B1 m1.length m1) (kc1 : m1.length ≤ d1) (kr2 : Kd.C (Kd.int .i64) w B2 m2.length m2) (kc2 : m2.length ≤ d2) :
    Calls Try.prog 4 #[.agg #[.slice A0 l0.length c0, .slice A1 l1.length c1, .slice A2 l2.length c2], .agg #[.slice B0 m0.length d0, .slice B1 m1.length d1, .slice B2 m2.length d2]] w fun e w' => e = .returned (.bool true) ∧ Below w.heap.size w w' := by
  obtain ⟨t, ht, hs⟩ := sz_gen l0 l1 l2 hr0.2.1 hr1.2.1 hr2.2.1 1048576 (by omega) (by omega)
  have HT := Aside0.mk ht
  have hlm : m0.length ≤ 9223372036854775807 ∧ m1.length ≤ 9223372036854775807 ∧ m2.length ≤ 9223372036854775807 := ⟨kr0.2.1, kr1.2.1, kr2.2.1⟩
  have HB1 := Aside0.mk (below_alloc (below_alloc (Below.refl w.heap.size w) (.cells #[.slice A0 l0.length c0, .slice A1 l1.length c1, .slice A2 l2.length c2] 30)) (.cells #[.slice B0 m0.length d0, .slice B1 m1.length d1, .slice B2 m2.length d2] 30))
  have BA1 := Aside0.mk (blk_alloc (blk_new w (.cells #[.slice A0 l0.length c0, .slice A1 l1.length c1, .slice A2 l2.length c2] 30)) (.cells #[.slice B0 m0.length d0, .slice B1 m1.length d1, .slice B2 m2.length d2] 30))
  have BB1 := Aside0.mk (blk_new (w.alloc (.cells #[.slice A0 l0.length c0, .slice A1 l1.length c1, .slice A2 l2.length c2] 30)) (.cells #[.slice B0 m0.length d0, .slice B1 m1.length d1, .slice B2 m2.length d2] 30))
  have HSI : (w.alloc (.cells #[.slice A0 l0.length c0, .slice A1 l1.length c1, .slice A2 l2.length c2] 30)).heap.size = w.heap.size + 1 := World.size_alloc _ _
  rw [HSI] at BB1
  clear HSI
  have HR := Aside0.mk (⟨hr0, hr1, hr2⟩ : Kd.C (Kd.int .i64) w A0 l0.length l0 ∧ Kd.C (Kd.int .i64) w A1 l1.length l1 ∧ Kd.C (Kd.int .i64) w A2 l2.length l2)
  have HC := Aside0.mk (⟨hc0, hc1, hc2⟩ : l0.length ≤ c0 ∧ l1.length ≤ c1 ∧ l2.length ≤ c2)
  have KR := Aside0.mk (⟨kr0, kr1, kr2⟩ : Kd.C (Kd.int .i64) w B0 m0.length m0 ∧ Kd.C (Kd.int .i64) w B1 m1.length m1 ∧ Kd.C (Kd.int .i64) w B2 m2.length m2)
  have KC := Aside0.mk (⟨kc0, kc1, kc2⟩ : m0.length ≤ d0 ∧ m1.length ≤ d1 ∧ m2.length ≤ d2)
  clear hr0 hr1 hr2 hc0 hc1 hc2 ht kr0 kr1 kr2 kc0 kc1 kc2
  have HSZ := Aside0.mk (fun W (hb : Below w.heap.size w W) => laws_szMachine.calls A0 c0 l0 A1 c1 l1 A2 c2 l2 1048576 t W (Kd.C_below HR.out.1 hb) HC.out.1 (Kd.C_below HR.out.2.1 hb) HC.out.2.1 (Kd.C_below HR.out.2.2 hb) HC.out.2.2 HT.out)
  have cay0_ : ((w.alloc (.cells #[.slice A0 l0.length c0, .slice A1 l1.length c1, .slice A2 l2.length c2] 30)).alloc (.cells #[.slice B0 m0.length d0, .slice B1 m1.length d1, .slice B2 m2.length d2] 30)).cell? ⟨w.heap.size, 0, none⟩ = some (.slice A0 l0.length c0) := (blk_cell BA1.out 0).trans rfl
  have cay1_ : ((w.alloc (.cells #[.slice A0 l0.length c0, .slice A1 l1.length c1, .slice A2 l2.length c2] 30)).alloc (.cells #[.slice B0 m0.length d0, .slice B1 m1.length d1, .slice B2 m2.length d2] 30)).cell? ⟨w.heap.size, 1, none⟩ = some (.slice A1 l1.length c1) := (blk_cell BA1.out 1).trans rfl
  have cay2_ : ((w.alloc (.cells #[.slice A0 l0.length c0, .slice A1 l1.length c1, .slice A2 l2.length c2] 30)).alloc (.cells #[.slice B0 m0.length d0, .slice B1 m1.length d1, .slice B2 m2.length d2] 30)).cell? ⟨w.heap.size, 2, none⟩ = some (.slice A2 l2.length c2) := (blk_cell BA1.out 2).trans rfl
  have cby0_ : ((w.alloc (.cells #[.slice A0 l0.length c0, .slice A1 l1.length c1, .slice A2 l2.length c2] 30)).alloc (.cells #[.slice B0 m0.length d0, .slice B1 m1.length d1, .slice B2 m2.length d2] 30)).cell? ⟨w.heap.size + 1, 0, none⟩ = some (.slice B0 m0.length d0) := (blk_cell BB1.out 0).trans rfl
  have cby1_ : ((w.alloc (.cells #[.slice A0 l0.length c0, .slice A1 l1.length c1, .slice A2 l2.length c2] 30)).alloc (.cells #[.slice B0 m0.length d0, .slice B1 m1.length d1, .slice B2 m2.length d2] 30)).cell? ⟨w.heap.size + 1, 1, none⟩ = some (.slice B1 m1.length d1) := (blk_cell BB1.out 1).trans rfl
  have cby2_ : ((w.alloc (.cells #[.slice A0 l0.length c0, .slice A1 l1.length c1, .slice A2 l2.length c2] 30)).alloc (.cells #[.slice B0 m0.length d0, .slice B1 m1.length d1, .slice B2 m2.length d2] 30)).cell? ⟨w.heap.size + 1, 2, none⟩ = some (.slice B2 m2.length d2) := (blk_cell BB1.out 2).trans rfl
  by_cases hn : t < 0
  · have hnb : decide (t < 0) = true := decide_eq_true hn
    go_enter Try.func4, Try.ntmps4
    go_wp2_with (first | (go_at_call 13; refine (HSZ.out _ HB1.out).mono ?_; rintro e w2 ⟨rfl, hb2⟩))
    go_ret
    exact ⟨rfl, below_step HB1.out hb2⟩
  · have hnb : decide (t < 0) = false := decide_eq_false hn
    obtain ⟨ha, hb, hc, htl⟩ := hs.resolve_left hn
    obtain ⟨t', ht', hs'⟩ := sz_gen m0 m1 m2 hlm.1 hlm.2.1 hlm.2.2 t (by omega) htl
    have HT2 := Aside0.mk ht'
    clear ht' hs
    have HSZ2 := Aside0.mk (fun W (hb : Below w.heap.size w W) => laws_szMachine.calls B0 d0 m0 B1 d1 m1 B2 d2 m2 t t' W (Kd.C_below KR.out.1 hb) KC.out.1 (Kd.C_below KR.out.2.1 hb) KC.out.2.1 (Kd.C_below KR.out.2.2 hb) KC.out.2.2 HT2.out)
    by_cases hn2 : t' < 0
    · have hnb2 : decide (t' < 0) = true := decide_eq_true hn2
      clear hs' ha hb hc htl hlm
      go_enter Try.func4, Try.ntmps4
      go_upto_if 21 with (first | (go_at_call 13; refine (HSZ.out _ HB1.out).mono ?_; rintro e w2 ⟨rfl, hb2⟩; have HB2 := Aside0.mk (below_step HB1.out hb2); have BA2 := Aside0.mk (blk_below BA1.out hb2); have BB2 := Aside0.mk (blk_below BB1.out hb2); have ca0_ : w2.cell? ⟨w.heap.size, 0, none⟩ = some (.slice A0 l0.length c0) := (blk_cell BA2.out 0).trans rfl; have ca1_ : w2.cell? ⟨w.heap.size, 1, none⟩ = some (.slice A1 l1.length c1) := (blk_cell BA2.out 1).trans rfl; have ca2_ : w2.cell? ⟨w.heap.size, 2, none⟩ = some (.slice A2 l2.length c2) := (blk_cell BA2.out 2).trans rfl; have cb0_ : w2.cell? ⟨w.heap.size + 1, 0, none⟩ = some (.slice B0 m0.length d0) := (blk_cell BB2.out 0).trans rfl; have cb1_ : w2.cell? ⟨w.heap.size + 1, 1, none⟩ = some (.slice B1 m1.length d1) := (blk_cell BB2.out 1).trans rfl; have cb2_ : w2.cell? ⟨w.heap.size + 1, 2, none⟩ = some (.slice B2 m2.length d2) := (blk_cell BB2.out 2).trans rfl; clear hb2))
      go_wp2_with (first | (go_at_call 13; refine (HSZ2.out _ HB2.out).mono ?_; rintro e w3 ⟨rfl, hb3⟩))
      go_ret
      exact ⟨rfl, below_step HB2.out hb3⟩
    · have hnb2 : decide (t' < 0) = false := decide_eq_false hn2
      obtain ⟨ka, kb, kc, _⟩ := hs'.resolve_left hn2
      obtain ⟨⟨n0, n1, n2, F⟩, hnm⟩ : ∃ n, n = Sem.bothM l0 l1 l2 m0 m1 m2 := ⟨_, rfl⟩
      have hlen := Sem.bothM_len l0 l1 l2 m0 m1 m2
      rw [← hnm] at hlen
      simp only at hlen
      obtain ⟨kT, hT⟩ := Ev.rounds (Sem.toMachine_eq l0 l1 l2 ha hb hc)
      obtain ⟨kU, hU⟩ := Ev.rounds (Sem.toMachine_eq m0 m1 m2 ka kb kc)
      obtain ⟨kS, hS⟩ := Ev.rounds (Sem.spec_MachineBoth_eq l0 l1 l2 m0 m1 m2 (by omega) (by omega))
      obtain ⟨kI, hI⟩ := Ev.rounds (Sem.impl_MachineBoth_eq l0 l1 l2 m0 m1 m2)
      rw [← hnm] at hS hI
      obtain ⟨kE, hE⟩ := Ev.rounds (Sem.eqMachine_self l0 l1 l2 ha hb hc)
      obtain ⟨kF, hF⟩ := Ev.rounds (Sem.eqMachine_self m0 m1 m2 ka kb kc)
      obtain ⟨kN, hN⟩ := Ev.rounds (Sem.eqMachine_self n0 n1 n2 (by omega) (by omega) (by omega))
      obtain ⟨kM, hM⟩ := Ev.rounds (Sem.markMachine_gen l0 l1 l2 1 (by omega) (by omega) ha hb hc)
      obtain ⟨M, hMe⟩ : ∃ M : Int, M = 1 + (l0.length : Int) + l1.length + l2.length := ⟨_, rfl⟩
      rw [← hMe] at hM
      obtain ⟨kP, hP⟩ := Ev.rounds (Sem.markMachine_gen m0 m1 m2 M (by omega) (by omega) ka kb kc)
      obtain ⟨kG, hG⟩ := Ev.rounds (Sem.markMachine_eq n0 n1 n2 (by omega) (by omega) (by omega))
      obtain ⟨kH, hH⟩ := Ev.rounds (Sem.heldMachine_eq n0.length n1.length n2.length (by omega) (by omega) (by omega))
      obtain ⟨R, hRe⟩ : ∃ R : Int, R = M + (m0.length : Int) + m1.length + m2.length := ⟨_, rfl⟩
      obtain ⟨Q, hQe⟩ : ∃ Q : Int, Q = 1 + (n0.length : Int) + n1.length + n2.length := ⟨_, rfl⟩
      have hR0 : decide (R < 0) = false := decide_eq_false (by omega)
      have hQ0 : decide (Q < 0) = false := decide_eq_false (by omega)
      rw [← hRe] at hP
      rw [← hQe] at hG hH
      generalize Sem.nums 1 l0.length = x0, Sem.nums (1 + (l0.length : Int)) l1.length = x1, Sem.nums (1 + (l0.length : Int) + l1.length) l2.length = x2 at hM
      generalize Sem.nums M m0.length = s0, Sem.nums (M + (m0.length : Int)) m1.length = s1, Sem.nums (M + (m0.length : Int) + m1.length) m2.length = s2 at hP
      generalize Sem.nums 1 n0.length = y0, Sem.nums (1 + (n0.length : Int)) n1.length = y1, Sem.nums (1 + (n0.length : Int) + n1.length) n2.length = y2 at hG hH
      clear hMe hRe hQe hlen hnm ha hb hc hs' hn hn2 ka kb kc htl hlm
      have HSp := Aside0.mk hS
      have HIm := Aside0.mk hI
      have HEq := Aside0.mk hE
      have HEm := Aside0.mk hF
      have HEn := Aside0.mk hN
      have HMa := Aside0.mk hM
      have HMb := Aside0.mk hP
      have HGa := Aside0.mk hG
      have HHe := Aside0.mk hH
      have HTo := Aside0.mk (fun W (hb : Below w.heap.size w W) => calls_to (w := w) (W := W) (below_size hb) (Kd.C_below HR.out.1 hb) HC.out.1 (Kd.C_below HR.out.2.1 hb) HC.out.2.1 (Kd.C_below HR.out.2.2 hb) HC.out.2.2 hT)
      have HTu := Aside0.mk (fun W (hb : Below w.heap.size w W) => calls_to (w := w) (W := W) (below_size hb) (Kd.C_below KR.out.1 hb) KC.out.1 (Kd.C_below KR.out.2.1 hb) KC.out.2.1 (Kd.C_below KR.out.2.2 hb) KC.out.2.2 hU)
      clear hT hU hS hI hE hF hN hM hP hG hH
      go_enter Try.func4, Try.ntmps4
      go_upto_if 21 with (first | (go_at_call 13; refine (HSZ.out _ HB1.out).mono ?_; rintro e w2 ⟨rfl, hb2⟩; have HB2 := Aside0.mk (below_step HB1.out hb2); have BA2 := Aside0.mk (blk_below BA1.out hb2); have BB2 := Aside0.mk (blk_below BB1.out hb2); have ca0_ : w2.cell? ⟨w.heap.size, 0, none⟩ = some (.slice A0 l0.length c0) := (blk_cell BA2.out 0).trans rfl; have ca1_ : w2.cell? ⟨w.heap.size, 1, none⟩ = some (.slice A1 l1.length c1) := (blk_cell BA2.out 1).trans rfl; have ca2_ : w2.cell? ⟨w.heap.size, 2, none⟩ = some (.slice A2 l2.length c2) := (blk_cell BA2.out 2).trans rfl; have cb0_ : w2.cell? ⟨w.heap.size + 1, 0, none⟩ = some (.slice B0 m0.length d0) := (blk_cell BB2.out 0).trans rfl; have cb1_ : w2.cell? ⟨w.heap.size + 1, 1, none⟩ = some (.slice B1 m1.length d1) := (blk_cell BB2.out 1).trans rfl; have cb2_ : w2.cell? ⟨w.heap.size + 1, 2, none⟩ = some (.slice B2 m2.length d2) := (blk_cell BB2.out 2).trans rfl; clear hb2))
      go_upto_region 8 with (first | (go_at_call 13; refine (HSZ2.out _ HB2.out).mono ?_; rintro e w3 ⟨rfl, hb3⟩; have HB3 := Aside0.mk (below_step HB2.out hb3); have BA3 := Aside0.mk (blk_below BA2.out hb3); have BB3 := Aside0.mk (blk_below BB2.out hb3); have caz0_ : w3.cell? ⟨w.heap.size, 0, none⟩ = some (.slice A0 l0.length c0) := (blk_cell BA3.out 0).trans rfl; have caz1_ : w3.cell? ⟨w.heap.size, 1, none⟩ = some (.slice A1 l1.length c1) := (blk_cell BA3.out 1).trans rfl; have caz2_ : w3.cell? ⟨w.heap.size, 2, none⟩ = some (.slice A2 l2.length c2) := (blk_cell BA3.out 2).trans rfl; have cbz0_ : w3.cell? ⟨w.heap.size + 1, 0, none⟩ = some (.slice B0 m0.length d0) := (blk_cell BB3.out 0).trans rfl; have cbz1_ : w3.cell? ⟨w.heap.size + 1, 1, none⟩ = some (.slice B1 m1.length d1) := (blk_cell BB3.out 1).trans rfl; have cbz2_ : w3.cell? ⟨w.heap.size + 1, 2, none⟩ = some (.slice B2 m2.length d2) := (blk_cell BB3.out 2).trans rfl; clear hb3))
      have PP := Aside0.mk (PB.mk BA3.out BB3.out HB3.out)
      clear BA1 BA2 BA3 BB1 BB2 BB3 HB1 HB2 HB3 HSZ HSZ2
      replace PP := Aside0.mk PP.out.drew
      refine start_ (n := 11) (S := fun w' => w'.cell? ⟨w.heap.size, 0, none⟩ = some (.slice A0 l0.length c0) ∧ w'.cell? ⟨w.heap.size, 1, none⟩ = some (.slice A1 l1.length c1) ∧ w'.cell? ⟨w.heap.size, 2, none⟩ = some (.slice A2 l2.length c2) ∧ w'.cell? ⟨w.heap.size + 1, 0, none⟩ = some (.slice B0 m0.length d0) ∧ w'.cell? ⟨w.heap.size + 1, 1, none⟩ = some (.slice B1 m1.length d1) ∧ w'.cell? ⟨w.heap.size + 1, 2, none⟩ = some (.slice B2 m2.length d2)) (ds := []) #[false, false, false, false, false, false, false, false, false, false, false] (by kernel_rfl) rfl rfl PP.out.cells (fun hHeld => ?_); refine with_tabW lawBoth.tab8 lawBoth.bits (fun HT_ HW_ => ?_)
      generalize w3.drew = wG8 at PP  hHeld ⊢
      refine take_ (i := 0) (N := some 28) (v := ?_) (a' := ?_) #[true, false, false, false, false, false, false, false, false, false, false] rfl rfl (take_ofW HT_.out HW_.out (by kernel_rfl)) (fun _ _ _ h => h) (Or.inl ⟨by rfl, ?_⟩) hHeld ?_ ?_; rotate_left
      · rintro w' ⟨s0, s1, s2, s3, s4, s5⟩
        go_simp
        with_reducible rfl
      rotate_left
      · simp only [Act.put, List.setIfInBounds_toArray, List.set_cons_zero, List.set_cons_succ, i64_w, i32_w]
        rfl
      refine take_ (i := 2) (N := some 30) (v := ?_) (a' := ?_) #[true, false, true, false, false, false, false, false, false, false, false] rfl rfl (take_ofW HT_.out HW_.out (by kernel_rfl)) (fun _ _ _ h => h) (Or.inl ⟨by rfl, ?_⟩) hHeld ?_ ?_; rotate_left
      · rintro w' ⟨s0, s1, s2, s3, s4, s5⟩
        go_simp
        with_reducible rfl
      rotate_left
      · simp only [Act.put, List.setIfInBounds_toArray, List.set_cons_zero, List.set_cons_succ, i64_w, i32_w]
        rfl
      refine join_ (σ := Value × Value × Value × Value × Value × Value × Value × Value × Value × Nat) 2 #[true, true, true, true, true, true, true, true, true, false, false] (fun s_ => [(29, .agg #[s_.1, s_.2.1, s_.2.2.1]), (31, .agg #[s_.2.2.2.1, s_.2.2.2.2.1, s_.2.2.2.2.2.1]), (32, .tuple #[.agg #[s_.2.2.2.2.2.2.1, s_.2.2.2.2.2.2.2.1, s_.2.2.2.2.2.2.2.2.1], .bool F]), (6, .pointer (some ⟨s_.2.2.2.2.2.2.2.2.2, 0, none⟩)), (27, .tuple #[.agg #[s_.2.2.2.2.2.2.1, s_.2.2.2.2.2.2.2.1, s_.2.2.2.2.2.2.2.2.1], .bool F]), (33, .agg #[s_.2.2.2.2.2.2.1, s_.2.2.2.2.2.2.2.1, s_.2.2.2.2.2.2.2.2.1]), (34, .bool F)]) (fun s_ w' => (w'.cell? ⟨w.heap.size, 0, none⟩ = some (.slice A0 l0.length c0) ∧ w'.cell? ⟨w.heap.size, 1, none⟩ = some (.slice A1 l1.length c1) ∧ w'.cell? ⟨w.heap.size, 2, none⟩ = some (.slice A2 l2.length c2) ∧ w'.cell? ⟨w.heap.size + 1, 0, none⟩ = some (.slice B0 m0.length d0) ∧ w'.cell? ⟨w.heap.size + 1, 1, none⟩ = some (.slice B1 m1.length d1) ∧ w'.cell? ⟨w.heap.size + 1, 2, none⟩ = some (.slice B2 m2.length d2)) ∧ PB w (.slice A0 l0.length c0) (.slice A1 l1.length c1) (.slice A2 l2.length c2) (.slice B0 m0.length d0) (.slice B1 m1.length d1) (.slice B2 m2.length d2) w' ∧ OM w w' s_.2.2.2.2.2.2.1 s_.2.2.2.2.2.2.2.1 s_.2.2.2.2.2.2.2.2.1 n0 n1 n2 ∧ w'.heap[s_.2.2.2.2.2.2.2.2.2]? = some (.cells #[.slice none 0 0, .slice none 0 0, .slice none 0 0] 24 (0, 0)) ∧ (w.heap.size ≠ s_.2.2.2.2.2.2.2.2.2 ∧ w.heap.size + 1 ≠ s_.2.2.2.2.2.2.2.2.2 ∧ w.heap.size ≤ s_.2.2.2.2.2.2.2.2.2)) ?_ ?_
      rotate_left
      · intro hCont
        refine two_ (i := 1) (j := 8) (Ni := some 29) (Nj := some 6) #[true, true, true, false, false, false, false, false, false, false, false] #[true, false, true, false, false, false, false, false, true, false, false] rfl rfl rfl rfl (two_of HT_.out (by kernel_rfl)) (by decide) (by decide) (fun K hK => ?_) (fun K hK => ?_)
        · skip
          refine goes_ Try.func15 (by kernel_rfl) rfl #[.agg #[.slice A0 l0.length c0, .slice A1 l1.length c1, .slice A2 l2.length c2]] (by rfl) rfl rfl (by (try simp only [List.map_toArray, List.map_cons, List.map_nil]); first | done | rfl | (simp only [List.length_drop, List.length_take]; rfl)) ?_
          refine (HTo.out _ PP.out.h).mono ?_
          rintro e wX0 ⟨t0, t1, t2, rfl, om_, fr_, hb_⟩
          obtain ⟨Pt0, pt0, Pt1, pt1, Pt2, pt2, rfl, rfl, rfl, _⟩ := om_.reads
          refine ⟨_, rfl, ?_⟩
          replace PP := Aside0.mk (PP.out.below hb_)
          have OA := Aside0.mk om_
          clear om_ fr_ hb_
          refine hK.out _ _ PP.out.cells (fun hHeld => ?_); clear hK K
          refine norm_ (a' := ?_) ?_ ?_; rotate_left
          · show Act.put _ (some 29) _ = _
            simp only [Act.put, List.setIfInBounds_toArray, List.set_cons_zero, List.set_cons_succ, i64_w, i32_w]
            rfl
          refine two_ (i := 3) (j := 8) (Ni := some 31) (Nj := some 6) #[true, true, true, true, false, false, false, false, false, false, false] #[true, true, true, false, false, false, false, false, true, false, false] rfl rfl rfl rfl (two_of HT_.out (by kernel_rfl)) (by decide) (by decide) (fun K hK => ?_) (fun K hK => ?_)
          · skip
            refine goes_ Try.func15 (by kernel_rfl) rfl #[.agg #[.slice B0 m0.length d0, .slice B1 m1.length d1, .slice B2 m2.length d2]] (by rfl) rfl rfl (by (try simp only [List.map_toArray, List.map_cons, List.map_nil]); first | done | rfl | (simp only [List.length_drop, List.length_take]; rfl)) ?_
            refine (HTu.out _ PP.out.h).mono ?_
            rintro e wX1 ⟨u0, u1, u2, rfl, om_, fr_, hb_⟩
            obtain ⟨Pu0, pu0, Pu1, pu1, Pu2, pu2, rfl, rfl, rfl, _⟩ := om_.reads
            refine ⟨_, rfl, ?_⟩
            replace PP := Aside0.mk (PP.out.below hb_)
            replace OA := Aside0.mk (OA.out.below hb_)
            have OB := Aside0.mk om_
            clear om_ fr_ hb_
            refine hK.out _ _ PP.out.cells (fun hHeld => ?_); clear hK K
            refine norm_ (a' := ?_) ?_ ?_; rotate_left
            · show Act.put _ (some 31) _ = _
              simp only [Act.put, List.setIfInBounds_toArray, List.set_cons_zero, List.set_cons_succ, i64_w, i32_w]
              rfl
            refine two_ (i := 4) (j := 8) (Ni := some 32) (Nj := some 6) #[true, true, true, true, true, false, false, false, false, false, false] #[true, true, true, true, false, false, false, false, true, false, false] rfl rfl rfl rfl (two_of HT_.out (by kernel_rfl)) (by decide) (by decide) (fun K hK => ?_) (fun K hK => ?_)
            · skip
              refine goes_ Try.func14 (by kernel_rfl) rfl #[.agg #[.slice Pt0 l0.length pt0, .slice Pt1 l1.length pt1, .slice Pt2 l2.length pt2], .agg #[.slice Pu0 m0.length pu0, .slice Pu1 m1.length pu1, .slice Pu2 m2.length pu2]] (by rfl) rfl rfl (by (try simp only [List.map_toArray, List.map_cons, List.map_nil]); first | done | rfl | (simp only [List.length_drop, List.length_take]; rfl)) ?_
              refine (calls_spec (w := w) (below_size PP.out.h) OA.out OB.out HSp.out).mono ?_
              rintro e wX2 ⟨a0, a1, a2, rfl, om_, fr_, hb_⟩
              refine ⟨_, rfl, ?_⟩
              replace PP := Aside0.mk (PP.out.below hb_)
              replace OA := Aside0.mk (OA.out.below hb_)
              replace OB := Aside0.mk (OB.out.below hb_)
              have OC := Aside0.mk om_
              clear om_ fr_ hb_
              refine hK.out _ _ PP.out.cells (fun hHeld => ?_); clear hK K
              refine norm_ (a' := ?_) ?_ ?_; rotate_left
              · show Act.put _ (some 32) _ = _
                simp only [Act.put, List.setIfInBounds_toArray, List.set_cons_zero, List.set_cons_succ, i64_w, i32_w]
                rfl
              refine pure_ (i := 5) (N := some 27) (v := ?_) (a' := ?_) #[true, true, true, true, true, true, false, false, false, false, false] rfl rfl (any_of HT_.out (by kernel_rfl)) (fun _ _ _ h => h) (Or.inl ⟨by rfl, ?_⟩) ?_ ?_; rotate_left
              · intro w'
                go_simp
                with_reducible rfl
              rotate_left
              · simp only [Act.put, List.setIfInBounds_toArray, List.set_cons_zero, List.set_cons_succ, i64_w, i32_w]
                rfl
              refine pure_ (i := 6) (N := some 33) (v := ?_) (a' := ?_) #[true, true, true, true, true, true, true, false, false, false, false] rfl rfl (any_of HT_.out (by kernel_rfl)) (fun _ _ _ h => h) (Or.inl ⟨by rfl, ?_⟩) ?_ ?_; rotate_left
              · intro w'
                go_simp
                with_reducible rfl
              rotate_left
              · simp only [Act.put, List.setIfInBounds_toArray, List.set_cons_zero, List.set_cons_succ, i64_w, i32_w]
                rfl
              refine pure_ (i := 7) (N := some 34) (v := ?_) (a' := ?_) #[true, true, true, true, true, true, true, true, false, false, false] rfl rfl (any_of HT_.out (by kernel_rfl)) (fun _ _ _ h => h) (Or.inl ⟨by rfl, ?_⟩) ?_ ?_; rotate_left
              · intro w'
                go_simp
                with_reducible rfl
              rotate_left
              · simp only [Act.put, List.setIfInBounds_toArray, List.set_cons_zero, List.set_cons_succ, i64_w, i32_w]
                rfl
              refine one_ (i := 8) (N := some 6) #[true, true, true, true, true, true, true, true, true, false, false] rfl rfl (one_of HT_.out (by kernel_rfl)) (by decide) (fun K hK => ?_)
              refine box_step ?hg (N := 6) ?hd (cs := #[.slice none 0 0, .slice none 0 0, .slice none 0 0]) (t := 24) ?hr ?_; (case hd => rfl); (case hg => rfl); (case hr => first | (go_simp; done) | (go_simp; rfl)); intro gz hgz wz hbox hb_
              have NZ := Aside0.mk (PP.out.ne hgz)
              replace PP := Aside0.mk (PP.out.below hb_)
              replace OA := Aside0.mk (OA.out.below hb_)
              replace OB := Aside0.mk (OB.out.below hb_)
              replace OC := Aside0.mk (OC.out.below hb_)
              have BZ := Aside0.mk hbox
              clear hbox hb_ hgz
              refine hK.out _ _ PP.out.cells (fun hHeld => ?_); clear hK K
              refine norm_ (a' := ?_) ?_ ?_; rotate_left
              · show Act.put _ (some 6) _ = _
                simp only [Act.put, List.setIfInBounds_toArray, List.set_cons_zero, List.set_cons_succ, i64_w, i32_w]
                rfl
              exact norm_ (by simp only [putAll, Act.put, List.setIfInBounds_toArray, List.set_cons_zero, List.set_cons_succ]) (hCont (.slice Pt0 l0.length pt0, .slice Pt1 l1.length pt1, .slice Pt2 l2.length pt2, .slice Pu0 m0.length pu0, .slice Pu1 m1.length pu1, .slice Pu2 m2.length pu2, a0, a1, a2, gz) _ ⟨hHeld, PP.out, OC.out, BZ.out, NZ.out⟩)
            · skip
              refine box_step ?hg (N := 6) ?hd (cs := #[.slice none 0 0, .slice none 0 0, .slice none 0 0]) (t := 24) ?hr ?_; (case hd => rfl); (case hg => rfl); (case hr => first | (go_simp; done) | (go_simp; rfl)); intro gz hgz wz hbox hb_
              have NZ := Aside0.mk (PP.out.ne hgz)
              replace PP := Aside0.mk (PP.out.below hb_)
              replace OA := Aside0.mk (OA.out.below hb_)
              replace OB := Aside0.mk (OB.out.below hb_)
              have BZ := Aside0.mk hbox
              clear hbox hb_ hgz
              refine hK.out _ _ PP.out.cells (fun hHeld => ?_); clear hK K
              refine norm_ (a' := ?_) ?_ ?_; rotate_left
              · show Act.put _ (some 6) _ = _
                simp only [Act.put, List.setIfInBounds_toArray, List.set_cons_zero, List.set_cons_succ, i64_w, i32_w]
                rfl
              refine one_ (i := 4) (N := some 32) #[true, true, true, true, true, false, false, false, true, false, false] rfl rfl (one_of HT_.out (by kernel_rfl)) (by decide) (fun K hK => ?_)
              refine goes_ Try.func14 (by kernel_rfl) rfl #[.agg #[.slice Pt0 l0.length pt0, .slice Pt1 l1.length pt1, .slice Pt2 l2.length pt2], .agg #[.slice Pu0 m0.length pu0, .slice Pu1 m1.length pu1, .slice Pu2 m2.length pu2]] (by rfl) rfl rfl (by (try simp only [List.map_toArray, List.map_cons, List.map_nil]); first | done | rfl | (simp only [List.length_drop, List.length_take]; rfl)) ?_
              refine (calls_spec (w := w) (below_size PP.out.h) OA.out OB.out HSp.out).mono ?_
              rintro e wX2 ⟨a0, a1, a2, rfl, om_, fr_, hb_⟩
              refine ⟨_, rfl, ?_⟩
              replace PP := Aside0.mk (PP.out.below hb_)
              replace OA := Aside0.mk (OA.out.below hb_)
              replace OB := Aside0.mk (OB.out.below hb_)
              replace BZ := Aside0.mk (blk_below BZ.out hb_)
              have OC := Aside0.mk om_
              clear om_ fr_ hb_
              refine hK.out _ _ PP.out.cells (fun hHeld => ?_); clear hK K
              refine norm_ (a' := ?_) ?_ ?_; rotate_left
              · show Act.put _ (some 32) _ = _
                simp only [Act.put, List.setIfInBounds_toArray, List.set_cons_zero, List.set_cons_succ, i64_w, i32_w]
                rfl
              refine pure_ (i := 5) (N := some 27) (v := ?_) (a' := ?_) #[true, true, true, true, true, true, false, false, true, false, false] rfl rfl (any_of HT_.out (by kernel_rfl)) (fun _ _ _ h => h) (Or.inl ⟨by rfl, ?_⟩) ?_ ?_; rotate_left
              · intro w'
                go_simp
                with_reducible rfl
              rotate_left
              · simp only [Act.put, List.setIfInBounds_toArray, List.set_cons_zero, List.set_cons_succ, i64_w, i32_w]
                rfl
              refine pure_ (i := 6) (N := some 33) (v := ?_) (a' := ?_) #[true, true, true, true, true, true, true, false, true, false, false] rfl rfl (any_of HT_.out (by kernel_rfl)) (fun _ _ _ h => h) (Or.inl ⟨by rfl, ?_⟩) ?_ ?_; rotate_left
              · intro w'
                go_simp
                with_reducible rfl
              rotate_left
              · simp only [Act.put, List.setIfInBounds_toArray, List.set_cons_zero, List.set_cons_succ, i64_w, i32_w]
                rfl
              refine pure_ (i := 7) (N := some 34) (v := ?_) (a' := ?_) #[true, true, true, true, true, true, true, true, true, false, false] rfl rfl (any_of HT_.out (by kernel_rfl)) (fun _ _ _ h => h) (Or.inl ⟨by rfl, ?_⟩) ?_ ?_; rotate_left
              · intro w'
                go_simp
                with_reducible rfl
              rotate_left
              · simp only [Act.put, List.setIfInBounds_toArray, List.set_cons_zero, List.set_cons_succ, i64_w, i32_w]
                rfl
              exact norm_ (by simp only [putAll, Act.put, List.setIfInBounds_toArray, List.set_cons_zero, List.set_cons_succ]) (hCont (.slice Pt0 l0.length pt0, .slice Pt1 l1.length pt1, .slice Pt2 l2.length pt2, .slice Pu0 m0.length pu0, .slice Pu1 m1.length pu1, .slice Pu2 m2.length pu2, a0, a1, a2, gz) _ ⟨hHeld, PP.out, OC.out, BZ.out, NZ.out⟩)
          · skip
            refine box_step ?hg (N := 6) ?hd (cs := #[.slice none 0 0, .slice none 0 0, .slice none 0 0]) (t := 24) ?hr ?_; (case hd => rfl); (case hg => rfl); (case hr => first | (go_simp; done) | (go_simp; rfl)); intro gz hgz wz hbox hb_
            have NZ := Aside0.mk (PP.out.ne hgz)
            replace PP := Aside0.mk (PP.out.below hb_)
            replace OA := Aside0.mk (OA.out.below hb_)
            have BZ := Aside0.mk hbox
            clear hbox hb_ hgz
            refine hK.out _ _ PP.out.cells (fun hHeld => ?_); clear hK K
            refine norm_ (a' := ?_) ?_ ?_; rotate_left
            · show Act.put _ (some 6) _ = _
              simp only [Act.put, List.setIfInBounds_toArray, List.set_cons_zero, List.set_cons_succ, i64_w, i32_w]
              rfl
            refine one_ (i := 3) (N := some 31) #[true, true, true, true, false, false, false, false, true, false, false] rfl rfl (one_of HT_.out (by kernel_rfl)) (by decide) (fun K hK => ?_)
            refine goes_ Try.func15 (by kernel_rfl) rfl #[.agg #[.slice B0 m0.length d0, .slice B1 m1.length d1, .slice B2 m2.length d2]] (by rfl) rfl rfl (by (try simp only [List.map_toArray, List.map_cons, List.map_nil]); first | done | rfl | (simp only [List.length_drop, List.length_take]; rfl)) ?_
            refine (HTu.out _ PP.out.h).mono ?_
            rintro e wX1 ⟨u0, u1, u2, rfl, om_, fr_, hb_⟩
            obtain ⟨Pu0, pu0, Pu1, pu1, Pu2, pu2, rfl, rfl, rfl, _⟩ := om_.reads
            refine ⟨_, rfl, ?_⟩
            replace PP := Aside0.mk (PP.out.below hb_)
            replace OA := Aside0.mk (OA.out.below hb_)
            replace BZ := Aside0.mk (blk_below BZ.out hb_)
            have OB := Aside0.mk om_
            clear om_ fr_ hb_
            refine hK.out _ _ PP.out.cells (fun hHeld => ?_); clear hK K
            refine norm_ (a' := ?_) ?_ ?_; rotate_left
            · show Act.put _ (some 31) _ = _
              simp only [Act.put, List.setIfInBounds_toArray, List.set_cons_zero, List.set_cons_succ, i64_w, i32_w]
              rfl
            refine one_ (i := 4) (N := some 32) #[true, true, true, true, true, false, false, false, true, false, false] rfl rfl (one_of HT_.out (by kernel_rfl)) (by decide) (fun K hK => ?_)
            refine goes_ Try.func14 (by kernel_rfl) rfl #[.agg #[.slice Pt0 l0.length pt0, .slice Pt1 l1.length pt1, .slice Pt2 l2.length pt2], .agg #[.slice Pu0 m0.length pu0, .slice Pu1 m1.length pu1, .slice Pu2 m2.length pu2]] (by rfl) rfl rfl (by (try simp only [List.map_toArray, List.map_cons, List.map_nil]); first | done | rfl | (simp only [List.length_drop, List.length_take]; rfl)) ?_
            refine (calls_spec (w := w) (below_size PP.out.h) OA.out OB.out HSp.out).mono ?_
            rintro e wX2 ⟨a0, a1, a2, rfl, om_, fr_, hb_⟩
            refine ⟨_, rfl, ?_⟩
            replace PP := Aside0.mk (PP.out.below hb_)
            replace OA := Aside0.mk (OA.out.below hb_)
            replace OB := Aside0.mk (OB.out.below hb_)
            replace BZ := Aside0.mk (blk_below BZ.out hb_)
            have OC := Aside0.mk om_
            clear om_ fr_ hb_
            refine hK.out _ _ PP.out.cells (fun hHeld => ?_); clear hK K
            refine norm_ (a' := ?_) ?_ ?_; rotate_left
            · show Act.put _ (some 32) _ = _
              simp only [Act.put, List.setIfInBounds_toArray, List.set_cons_zero, List.set_cons_succ, i64_w, i32_w]
              rfl
            refine pure_ (i := 5) (N := some 27) (v := ?_) (a' := ?_) #[true, true, true, true, true, true, false, false, true, false, false] rfl rfl (any_of HT_.out (by kernel_rfl)) (fun _ _ _ h => h) (Or.inl ⟨by rfl, ?_⟩) ?_ ?_; rotate_left
            · intro w'
              go_simp
              with_reducible rfl
            rotate_left
            · simp only [Act.put, List.setIfInBounds_toArray, List.set_cons_zero, List.set_cons_succ, i64_w, i32_w]
              rfl
            refine pure_ (i := 6) (N := some 33) (v := ?_) (a' := ?_) #[true, true, true, true, true, true, true, false, true, false, false] rfl rfl (any_of HT_.out (by kernel_rfl)) (fun _ _ _ h => h) (Or.inl ⟨by rfl, ?_⟩) ?_ ?_; rotate_left
            · intro w'
              go_simp
              with_reducible rfl
            rotate_left
            · simp only [Act.put, List.setIfInBounds_toArray, List.set_cons_zero, List.set_cons_succ, i64_w, i32_w]
              rfl
            refine pure_ (i := 7) (N := some 34) (v := ?_) (a' := ?_) #[true, true, true, true, true, true, true, true, true, false, false] rfl rfl (any_of HT_.out (by kernel_rfl)) (fun _ _ _ h => h) (Or.inl ⟨by rfl, ?_⟩) ?_ ?_; rotate_left
            · intro w'
              go_simp
              with_reducible rfl
            rotate_left
            · simp only [Act.put, List.setIfInBounds_toArray, List.set_cons_zero, List.set_cons_succ, i64_w, i32_w]
              rfl
            exact norm_ (by simp only [putAll, Act.put, List.setIfInBounds_toArray, List.set_cons_zero, List.set_cons_succ]) (hCont (.slice Pt0 l0.length pt0, .slice Pt1 l1.length pt1, .slice Pt2 l2.length pt2, .slice Pu0 m0.length pu0, .slice Pu1 m1.length pu1, .slice Pu2 m2.length pu2, a0, a1, a2, gz) _ ⟨hHeld, PP.out, OC.out, BZ.out, NZ.out⟩)
        · skip
          refine box_step ?hg (N := 6) ?hd (cs := #[.slice none 0 0, .slice none 0 0, .slice none 0 0]) (t := 24) ?hr ?_; (case hd => rfl); (case hg => rfl); (case hr => first | (go_simp; done) | (go_simp; rfl)); intro gz hgz wz hbox hb_
          have NZ := Aside0.mk (PP.out.ne hgz)
          replace PP := Aside0.mk (PP.out.below hb_)
          have BZ := Aside0.mk hbox
          clear hbox hb_ hgz
          refine hK.out _ _ PP.out.cells (fun hHeld => ?_); clear hK K
          refine norm_ (a' := ?_) ?_ ?_; rotate_left
          · show Act.put _ (some 6) _ = _
            simp only [Act.put, List.setIfInBounds_toArray, List.set_cons_zero, List.set_cons_succ, i64_w, i32_w]
            rfl
          refine one_ (i := 1) (N := some 29) #[true, true, true, false, false, false, false, false, true, false, false] rfl rfl (one_of HT_.out (by kernel_rfl)) (by decide) (fun K hK => ?_)
          refine goes_ Try.func15 (by kernel_rfl) rfl #[.agg #[.slice A0 l0.length c0, .slice A1 l1.length c1, .slice A2 l2.length c2]] (by rfl) rfl rfl (by (try simp only [List.map_toArray, List.map_cons, List.map_nil]); first | done | rfl | (simp only [List.length_drop, List.length_take]; rfl)) ?_
          refine (HTo.out _ PP.out.h).mono ?_
          rintro e wX0 ⟨t0, t1, t2, rfl, om_, fr_, hb_⟩
          obtain ⟨Pt0, pt0, Pt1, pt1, Pt2, pt2, rfl, rfl, rfl, _⟩ := om_.reads
          refine ⟨_, rfl, ?_⟩
          replace PP := Aside0.mk (PP.out.below hb_)
          replace BZ := Aside0.mk (blk_below BZ.out hb_)
          have OA := Aside0.mk om_
          clear om_ fr_ hb_
          refine hK.out _ _ PP.out.cells (fun hHeld => ?_); clear hK K
          refine norm_ (a' := ?_) ?_ ?_; rotate_left
          · show Act.put _ (some 29) _ = _
            simp only [Act.put, List.setIfInBounds_toArray, List.set_cons_zero, List.set_cons_succ, i64_w, i32_w]
            rfl
          refine one_ (i := 3) (N := some 31) #[true, true, true, true, false, false, false, false, true, false, false] rfl rfl (one_of HT_.out (by kernel_rfl)) (by decide) (fun K hK => ?_)
          refine goes_ Try.func15 (by kernel_rfl) rfl #[.agg #[.slice B0 m0.length d0, .slice B1 m1.length d1, .slice B2 m2.length d2]] (by rfl) rfl rfl (by (try simp only [List.map_toArray, List.map_cons, List.map_nil]); first | done | rfl | (simp only [List.length_drop, List.length_take]; rfl)) ?_
          refine (HTu.out _ PP.out.h).mono ?_
          rintro e wX1 ⟨u0, u1, u2, rfl, om_, fr_, hb_⟩
          obtain ⟨Pu0, pu0, Pu1, pu1, Pu2, pu2, rfl, rfl, rfl, _⟩ := om_.reads
          refine ⟨_, rfl, ?_⟩
          replace PP := Aside0.mk (PP.out.below hb_)
          replace OA := Aside0.mk (OA.out.below hb_)
          replace BZ := Aside0.mk (blk_below BZ.out hb_)
          have OB := Aside0.mk om_
          clear om_ fr_ hb_
          refine hK.out _ _ PP.out.cells (fun hHeld => ?_); clear hK K
          refine norm_ (a' := ?_) ?_ ?_; rotate_left
          · show Act.put _ (some 31) _ = _
            simp only [Act.put, List.setIfInBounds_toArray, List.set_cons_zero, List.set_cons_succ, i64_w, i32_w]
            rfl
          refine one_ (i := 4) (N := some 32) #[true, true, true, true, true, false, false, false, true, false, false] rfl rfl (one_of HT_.out (by kernel_rfl)) (by decide) (fun K hK => ?_)
          refine goes_ Try.func14 (by kernel_rfl) rfl #[.agg #[.slice Pt0 l0.length pt0, .slice Pt1 l1.length pt1, .slice Pt2 l2.length pt2], .agg #[.slice Pu0 m0.length pu0, .slice Pu1 m1.length pu1, .slice Pu2 m2.length pu2]] (by rfl) rfl rfl (by (try simp only [List.map_toArray, List.map_cons, List.map_nil]); first | done | rfl | (simp only [List.length_drop, List.length_take]; rfl)) ?_
          refine (calls_spec (w := w) (below_size PP.out.h) OA.out OB.out HSp.out).mono ?_
          rintro e wX2 ⟨a0, a1, a2, rfl, om_, fr_, hb_⟩
          refine ⟨_, rfl, ?_⟩
          replace PP := Aside0.mk (PP.out.below hb_)
          replace OA := Aside0.mk (OA.out.below hb_)
          replace OB := Aside0.mk (OB.out.below hb_)
          replace BZ := Aside0.mk (blk_below BZ.out hb_)
          have OC := Aside0.mk om_
          clear om_ fr_ hb_
          refine hK.out _ _ PP.out.cells (fun hHeld => ?_); clear hK K
          refine norm_ (a' := ?_) ?_ ?_; rotate_left
          · show Act.put _ (some 32) _ = _
            simp only [Act.put, List.setIfInBounds_toArray, List.set_cons_zero, List.set_cons_succ, i64_w, i32_w]
            rfl
          refine pure_ (i := 5) (N := some 27) (v := ?_) (a' := ?_) #[true, true, true, true, true, true, false, false, true, false, false] rfl rfl (any_of HT_.out (by kernel_rfl)) (fun _ _ _ h => h) (Or.inl ⟨by rfl, ?_⟩) ?_ ?_; rotate_left
          · intro w'
            go_simp
            with_reducible rfl
          rotate_left
          · simp only [Act.put, List.setIfInBounds_toArray, List.set_cons_zero, List.set_cons_succ, i64_w, i32_w]
            rfl
          refine pure_ (i := 6) (N := some 33) (v := ?_) (a' := ?_) #[true, true, true, true, true, true, true, false, true, false, false] rfl rfl (any_of HT_.out (by kernel_rfl)) (fun _ _ _ h => h) (Or.inl ⟨by rfl, ?_⟩) ?_ ?_; rotate_left
          · intro w'
            go_simp
            with_reducible rfl
          rotate_left
          · simp only [Act.put, List.setIfInBounds_toArray, List.set_cons_zero, List.set_cons_succ, i64_w, i32_w]
            rfl
          refine pure_ (i := 7) (N := some 34) (v := ?_) (a' := ?_) #[true, true, true, true, true, true, true, true, true, false, false] rfl rfl (any_of HT_.out (by kernel_rfl)) (fun _ _ _ h => h) (Or.inl ⟨by rfl, ?_⟩) ?_ ?_; rotate_left
          · intro w'
            go_simp
            with_reducible rfl
          rotate_left
          · simp only [Act.put, List.setIfInBounds_toArray, List.set_cons_zero, List.set_cons_succ, i64_w, i32_w]
            rfl
          exact norm_ (by simp only [putAll, Act.put, List.setIfInBounds_toArray, List.set_cons_zero, List.set_cons_succ]) (hCont (.slice Pt0 l0.length pt0, .slice Pt1 l1.length pt1, .slice Pt2 l2.length pt2, .slice Pu0 m0.length pu0, .slice Pu1 m1.length pu1, .slice Pu2 m2.length pu2, a0, a1, a2, gz) _ ⟨hHeld, PP.out, OC.out, BZ.out, NZ.out⟩)
      rintro ⟨t0, t1, t2, u0, u1, u2, a0, a1, a2, g6⟩ wJ8 ⟨hS_, p_, o_, z_, n_⟩
      replace PP := Aside0.mk p_
      obtain ⟨Pa0, pa0, Pa1, pa1, Pa2, pa2, rfl, rfl, rfl, _⟩ := o_.reads
      refine norm_ (a' := ?_) ?_ ?_; rotate_left
      · simp only [putAll, Act.put, List.setIfInBounds_toArray, List.set_cons_zero, List.set_cons_succ]
        rfl
      refine one_ (i := 9) (N := none) #[true, true, true, true, true, true, true, true, true, true, false] rfl rfl (one_of HT_.out (by kernel_rfl)) (by decide) (fun K hK => ?_)
      have hz8_0 : wJ8.cell? ⟨g6, 0, none⟩ = some (.slice none 0 0) := (blk_cell z_ 0).trans rfl
      have hf8_0 := blk_frozen z_ 0
      have hz8_1 : wJ8.cell? ⟨g6, 1, none⟩ = some (.slice none 0 0) := (blk_cell z_ 1).trans rfl
      have hf8_1 := blk_frozen z_ 1
      have hz8_2 : wJ8.cell? ⟨g6, 2, none⟩ = some (.slice none 0 0) := (blk_cell z_ 2).trans rfl
      have hf8_2 := blk_frozen z_ 2
      refine skip_ (w1 := ?_) (by rfl) rfl ?_ ?_; rotate_left
      · go_simp
        rfl
      have M_a := Aside0.mk (o_.boxed2 z_)
      replace PP := Aside0.mk (PP.out.fill n_ (.slice Pa0 n0.length pa0) (.slice Pa1 n1.length pa1) (.slice Pa2 n2.length pa2))
      refine hK.out _ _ PP.out.cells (fun hHeld => ?_); clear hK K
      refine pure_ (i := 10) (N := some 7) (v := ?_) (a' := ?_) #[true, true, true, true, true, true, true, true, true, true, true] rfl rfl (any_of HT_.out (by kernel_rfl)) (fun _ _ _ h => h) (Or.inl ⟨by rfl, ?_⟩) ?_ ?_; rotate_left
      · intro w'
        go_simp
        with_reducible rfl
      rotate_left
      · simp only [Act.put, List.setIfInBounds_toArray, List.set_cons_zero, List.set_cons_succ, i64_w, i32_w]
        rfl
      refine done_ (done_of HT_.out (by kernel_rfl)) ?_
      clear hHeld hS_ p_ o_ z_ n_  HT_ HW_ hz8_0 hf8_0 hz8_1 hf8_1 hz8_2 hf8_2
      generalize (((wJ8.setCell ⟨g6, 0, none⟩ (.slice Pa0 n0.length pa0)).setCell ⟨g6, 1, none⟩ (.slice Pa1 n1.length pa1)).setCell ⟨g6, 2, none⟩ (.slice Pa2 n2.length pa2)) = wF8 at PP M_a  ⊢
      have ff1 : (F == F) = true := beq_self_eq_true F
      have ff2 : (F != F) = false := bne_self_eq_false F
      have qq1 : (Q == Q) = true := beq_self_eq_true Q
      have qq2 : (Q != Q) = false := bne_self_eq_false Q
      have qq3 : decide (Q = Q) = true := decide_eq_true rfl
      obtain ⟨ca0, ca1, ca2, cb0, cb1, cb2⟩ := PP.out.cells
      go_upto_region 14 with (first | (go_at_call 15; (with_reducible refine (HTo.out _ PP.out.h).mono ?_); rintro e w20 ⟨b0, b1, b2, rfl, om_, fr_, hb_⟩; obtain ⟨Pb0, pb0, Pb1, pb1, Pb2, pb2, rfl, rfl, rfl, _⟩ := om_.reads; have Ob := Aside0.mk (om_); have P1 := Aside0.mk (PP.out.below hb_); have M6a := Aside0.mk (M_a.out.below hb_); have Xab := Aside0.mk (apart M_a.out.om fr_); clear om_ fr_ hb_) | ((with_reducible refine gate_dst (N := 8) rfl ?_); refine box_event ?hg (N := 8) ?hd (cs := #[.slice none 0 0, .slice none 0 0, .slice none 0 0]) (t := 24) ?hr ?_; (case hd => rfl); (case hg => rfl); (case hr => first | (go_simp; done) | (go_simp; rfl)); intro g8 h8 w21 hbox hb_; have M8 := Aside0.mk (Ob.out.boxed h8 hbox hb_); have P2 := Aside0.mk ((P1.out.below hb_).fill (P1.out.ne h8) (.slice Pb0 l0.length pb0) (.slice Pb1 l1.length pb1) (.slice Pb2 l2.length pb2)); have M6b := Aside0.mk (M6a.out.beside h8 hb_ (.slice Pb0 l0.length pb0) (.slice Pb1 l1.length pb1) (.slice Pb2 l2.length pb2)); have zg80 : w21.cell? ⟨g8, 0, none⟩ = some (.slice none 0 0) := (blk_cell hbox 0).trans rfl; have yg80 := blk_frozen hbox 0; have zg81 : w21.cell? ⟨g8, 1, none⟩ = some (.slice none 0 0) := (blk_cell hbox 1).trans rfl; have yg81 := blk_frozen hbox 1; have zg82 : w21.cell? ⟨g8, 2, none⟩ = some (.slice none 0 0) := (blk_cell hbox 2).trans rfl; have yg82 := blk_frozen hbox 2; have qg8 := P1.out.ne h8; have qag8 := qg8.1; have qbg8 := qg8.2.1; have qcg8 := qg8.1.symm; have qdg8 := qg8.2.1.symm; obtain ⟨pag80, pag81, pag82, pbg80, pbg81, pbg82⟩ := (P1.out.below hb_).cells; clear hbox hb_ h8 qg8) | (go_at_call 15; (with_reducible refine (HTu.out _ P2.out.h).mono ?_); rintro e w22 ⟨d0, d1, d2, rfl, om_, fr_, hb_⟩; obtain ⟨Pd0, pd0, Pd1, pd1, Pd2, pd2, rfl, rfl, rfl, _⟩ := om_.reads; have Od := Aside0.mk (om_); have P3 := Aside0.mk (P2.out.below hb_); have M6c := Aside0.mk (M6b.out.below hb_); have M8c := Aside0.mk (M8.out.below hb_); have Xad := Aside0.mk (apart M6b.out.om fr_); have Xbd := Aside0.mk (apart M8.out.om fr_); clear om_ fr_ hb_) | ((with_reducible refine gate_dst (N := 9) rfl ?_); refine box_event ?hg (N := 9) ?hd (cs := #[.slice none 0 0, .slice none 0 0, .slice none 0 0]) (t := 24) ?hr ?_; (case hd => rfl); (case hg => rfl); (case hr => first | (go_simp; done) | (go_simp; rfl)); intro g9 h9 w23 hbox hb_; have M9 := Aside0.mk (Od.out.boxed h9 hbox hb_); have P4 := Aside0.mk ((P3.out.below hb_).fill (P3.out.ne h9) (.slice Pd0 m0.length pd0) (.slice Pd1 m1.length pd1) (.slice Pd2 m2.length pd2)); have M6d := Aside0.mk (M6c.out.beside h9 hb_ (.slice Pd0 m0.length pd0) (.slice Pd1 m1.length pd1) (.slice Pd2 m2.length pd2)); have M8d := Aside0.mk (M8c.out.beside h9 hb_ (.slice Pd0 m0.length pd0) (.slice Pd1 m1.length pd1) (.slice Pd2 m2.length pd2)); have zg90 : w23.cell? ⟨g9, 0, none⟩ = some (.slice none 0 0) := (blk_cell hbox 0).trans rfl; have yg90 := blk_frozen hbox 0; have zg91 : w23.cell? ⟨g9, 1, none⟩ = some (.slice none 0 0) := (blk_cell hbox 1).trans rfl; have yg91 := blk_frozen hbox 1; have zg92 : w23.cell? ⟨g9, 2, none⟩ = some (.slice none 0 0) := (blk_cell hbox 2).trans rfl; have yg92 := blk_frozen hbox 2; have qg9 := P3.out.ne h9; have qag9 := qg9.1; have qbg9 := qg9.2.1; have qcg9 := qg9.1.symm; have qdg9 := qg9.2.1.symm; obtain ⟨pag90, pag91, pag92, pbg90, pbg91, pbg92⟩ := (P3.out.below hb_).cells; have ng8g9 : g8 ≠ g9 := (by have := blk_lt M8c.out.bx; omega); have ng9g8 := ng8g9.symm; obtain ⟨kg8g90, kg8g91, kg8g92⟩ := PB.mkx (M8c.out.below hb_); clear hbox hb_ h9 qg9) | (go_at_call 16; (with_reducible refine (calls_impl (w := w) (below_size P4.out.h) M8d.out.om M9.out.om HIm.out).mono ?_); rintro e w24 ⟨e0, e1, e2, rfl, om_, fr_, hb_⟩; obtain ⟨Pe0, pe0, Pe1, pe1, Pe2, pe2, rfl, rfl, rfl, _⟩ := om_.reads; have Oe := Aside0.mk (om_); have P5 := Aside0.mk (P4.out.below hb_); have M6e := Aside0.mk (M6d.out.below hb_); have M8e := Aside0.mk (M8d.out.below hb_); have M9e := Aside0.mk (M9.out.below hb_); have Xae := Aside0.mk (apart M6d.out.om fr_); have Xbe := Aside0.mk (apart M8d.out.om fr_); have Xde := Aside0.mk (apart M9.out.om fr_); clear om_ fr_ hb_) | ((with_reducible refine gate_dst (N := 10) rfl ?_); refine box_event ?hg (N := 10) ?hd (cs := #[.slice none 0 0, .slice none 0 0, .slice none 0 0]) (t := 24) ?hr ?_; (case hd => rfl); (case hg => rfl); (case hr => first | (go_simp; done) | (go_simp; rfl)); intro g10 h10 w25 hbox hb_; have M10 := Aside0.mk (Oe.out.boxed h10 hbox hb_); have P6 := Aside0.mk ((P5.out.below hb_).fill (P5.out.ne h10) (.slice Pe0 n0.length pe0) (.slice Pe1 n1.length pe1) (.slice Pe2 n2.length pe2)); have M6f := Aside0.mk (M6e.out.beside h10 hb_ (.slice Pe0 n0.length pe0) (.slice Pe1 n1.length pe1) (.slice Pe2 n2.length pe2)); have M8f := Aside0.mk (M8e.out.beside h10 hb_ (.slice Pe0 n0.length pe0) (.slice Pe1 n1.length pe1) (.slice Pe2 n2.length pe2)); have M9f := Aside0.mk (M9e.out.beside h10 hb_ (.slice Pe0 n0.length pe0) (.slice Pe1 n1.length pe1) (.slice Pe2 n2.length pe2)); have zg100 : w25.cell? ⟨g10, 0, none⟩ = some (.slice none 0 0) := (blk_cell hbox 0).trans rfl; have yg100 := blk_frozen hbox 0; have zg101 : w25.cell? ⟨g10, 1, none⟩ = some (.slice none 0 0) := (blk_cell hbox 1).trans rfl; have yg101 := blk_frozen hbox 1; have zg102 : w25.cell? ⟨g10, 2, none⟩ = some (.slice none 0 0) := (blk_cell hbox 2).trans rfl; have yg102 := blk_frozen hbox 2; have qg10 := P5.out.ne h10; have qag10 := qg10.1; have qbg10 := qg10.2.1; have qcg10 := qg10.1.symm; have qdg10 := qg10.2.1.symm; obtain ⟨pag100, pag101, pag102, pbg100, pbg101, pbg102⟩ := (P5.out.below hb_).cells; have ng6g10 : g6 ≠ g10 := (by have := blk_lt M6e.out.bx; omega); have ng10g6 := ng6g10.symm; obtain ⟨kg6g100, kg6g101, kg6g102⟩ := PB.mkx (M6e.out.below hb_); clear hbox hb_ h10 qg10) | (go_at_call 10; (with_reducible refine (calls_eq (w := w) M10.out.om M6f.out.om HEn.out).mono ?_); rintro e w26 ⟨rfl, hb_⟩; have P7 := Aside0.mk (P6.out.below hb_); have M6g := Aside0.mk (M6f.out.below hb_); have M8g := Aside0.mk (M8f.out.below hb_); have M9g := Aside0.mk (M9f.out.below hb_); have M10g := Aside0.mk (M10.out.below hb_); clear hb_))
      clear PP M_a P1 M6a P2 M6b P3 M6c M8c P4 M6d M8d M9 P5 M6e M8e M9e P6 M6f M8f M9f M10 M8 Ob Od Oe
      have PP := P7
      have M6 := M6g
      have M8 := M8g
      have M9 := M9g
      have M10 := M10g
      clear P7 M6g M8g M9g M10g
      replace PP := Aside0.mk PP.out.drew
      replace M6 := Aside0.mk M6.out.drew
      replace M8 := Aside0.mk M8.out.drew
      replace M9 := Aside0.mk M9.out.drew
      replace M10 := Aside0.mk M10.out.drew
      refine start_ (n := 5) (S := fun w' => w'.cell? ⟨g8, 0, none⟩ = some (.slice Pb0 l0.length pb0) ∧ w'.cell? ⟨g8, 1, none⟩ = some (.slice Pb1 l1.length pb1) ∧ w'.cell? ⟨g8, 2, none⟩ = some (.slice Pb2 l2.length pb2) ∧ w'.cell? ⟨w.heap.size, 0, none⟩ = some (.slice A0 l0.length c0) ∧ w'.cell? ⟨w.heap.size, 1, none⟩ = some (.slice A1 l1.length c1) ∧ w'.cell? ⟨w.heap.size, 2, none⟩ = some (.slice A2 l2.length c2)) (ds := []) #[false, false, false, false, false] (by kernel_rfl) rfl rfl ⟨(PB.mkx M8.out).1, (PB.mkx M8.out).2.1, (PB.mkx M8.out).2.2, PP.out.cells.1, PP.out.cells.2.1, PP.out.cells.2.2.1⟩ (fun hHeld => ?_)
      generalize w26.drew = wG14 at PP M6 M8 M9 M10 hHeld ⊢
      refine take_ (i := 0) (N := some 54) (v := ?_) (a' := ?_) #[true, false, false, false, false] rfl rfl (by kernel_rfl) (fun _ _ _ h => h) (Or.inl ⟨by rfl, ?_⟩) hHeld ?_ ?_; rotate_left
      · rintro w' ⟨s0, s1, s2, s3, s4, s5⟩
        go_simp
        with_reducible rfl
      rotate_left
      · simp only [Act.put, List.setIfInBounds_toArray, List.set_cons_zero, List.set_cons_succ, i64_w, i32_w]
        rfl
      refine take_ (i := 1) (N := some 55) (v := ?_) (a' := ?_) #[true, true, false, false, false] rfl rfl (by kernel_rfl) (fun _ _ _ h => h) (Or.inl ⟨by rfl, ?_⟩) hHeld ?_ ?_; rotate_left
      · rintro w' ⟨s0, s1, s2, s3, s4, s5⟩
        go_simp
        with_reducible rfl
      rotate_left
      · simp only [Act.put, List.setIfInBounds_toArray, List.set_cons_zero, List.set_cons_succ, i64_w, i32_w]
        rfl
      refine one_ (i := 2) (N := some 56) #[true, true, true, false, false] rfl rfl (by kernel_rfl) (by decide) (fun K hK => ?_)
      refine goes_ Try.func15 (by kernel_rfl) rfl #[.agg #[.slice A0 l0.length c0, .slice A1 l1.length c1, .slice A2 l2.length c2]] (by rfl) rfl rfl (by (try simp only [List.map_toArray, List.map_cons, List.map_nil]); first | done | rfl | (simp only [List.length_drop, List.length_take]; rfl)) ?_
      refine (HTo.out _ PP.out.h).mono ?_
      rintro e wR14 ⟨t0, t1, t2, rfl, om_, fr_, hb_⟩
      obtain ⟨Pt0, pt0, Pt1, pt1, Pt2, pt2, rfl, rfl, rfl, _⟩ := om_.reads
      refine ⟨_, rfl, ?_⟩
      replace PP := Aside0.mk (PP.out.below hb_)
      replace M6 := Aside0.mk (M6.out.below hb_)
      replace M8 := Aside0.mk (M8.out.below hb_)
      replace M9 := Aside0.mk (M9.out.below hb_)
      replace M10 := Aside0.mk (M10.out.below hb_)
      have OT := Aside0.mk om_
      clear om_ fr_ hb_
      refine hK.out _ _ ⟨(PB.mkx M8.out).1, (PB.mkx M8.out).2.1, (PB.mkx M8.out).2.2, PP.out.cells.1, PP.out.cells.2.1, PP.out.cells.2.2.1⟩ (fun hHeld => ?_); clear hK K
      refine norm_ (a' := ?_) ?_ ?_; rotate_left
      · show Act.put _ (some 56) _ = _
        simp only [Act.put, List.setIfInBounds_toArray, List.set_cons_zero, List.set_cons_succ, i64_w, i32_w]
        rfl
      refine one_ (i := 3) (N := some 57) #[true, true, true, true, false] rfl rfl (by kernel_rfl) (by decide) (fun K hK => ?_)
      refine goes_ Try.func10 (by kernel_rfl) rfl #[.agg #[.slice Pb0 l0.length pb0, .slice Pb1 l1.length pb1, .slice Pb2 l2.length pb2], .agg #[.slice Pt0 l0.length pt0, .slice Pt1 l1.length pt1, .slice Pt2 l2.length pt2]] (by rfl) rfl rfl (by (try simp only [List.map_toArray, List.map_cons, List.map_nil]); first | done | rfl | (simp only [List.length_drop, List.length_take]; rfl)) ?_
      refine (calls_eq (w := w) M8.out.om OT.out HEq.out).mono ?_
      rintro e wS14 ⟨rfl, hb_⟩
      refine ⟨_, rfl, ?_⟩
      replace PP := Aside0.mk (PP.out.below hb_)
      replace M6 := Aside0.mk (M6.out.below hb_)
      replace M8 := Aside0.mk (M8.out.below hb_)
      replace M9 := Aside0.mk (M9.out.below hb_)
      replace M10 := Aside0.mk (M10.out.below hb_)
      clear OT hb_
      refine hK.out _ _ ⟨(PB.mkx M8.out).1, (PB.mkx M8.out).2.1, (PB.mkx M8.out).2.2, PP.out.cells.1, PP.out.cells.2.1, PP.out.cells.2.2.1⟩ (fun hHeld => ?_); clear hK K
      refine norm_ (a' := ?_) ?_ ?_; rotate_left
      · show Act.put _ (some 57) _ = _
        simp only [Act.put, List.setIfInBounds_toArray, List.set_cons_zero, List.set_cons_succ, i64_w, i32_w]
        rfl
      refine pure_ (i := 4) (N := some 58) (v := ?_) (a' := ?_) #[true, true, true, true, true] rfl rfl (by kernel_rfl) (fun _ _ _ h => h) (Or.inl ⟨by rfl, ?_⟩) ?_ ?_; rotate_left
      · intro w'
        go_simp
        with_reducible rfl
      rotate_left
      · simp only [Act.put, List.setIfInBounds_toArray, List.set_cons_zero, List.set_cons_succ, i64_w, i32_w]
        rfl
      refine done_ (by kernel_rfl) ?_
      clear hHeld
      go_upto_region 16 with (fail)
      replace PP := Aside0.mk PP.out.drew
      replace M6 := Aside0.mk M6.out.drew
      replace M8 := Aside0.mk M8.out.drew
      replace M9 := Aside0.mk M9.out.drew
      replace M10 := Aside0.mk M10.out.drew
      refine start_ (n := 5) (S := fun w' => w'.cell? ⟨g9, 0, none⟩ = some (.slice Pd0 m0.length pd0) ∧ w'.cell? ⟨g9, 1, none⟩ = some (.slice Pd1 m1.length pd1) ∧ w'.cell? ⟨g9, 2, none⟩ = some (.slice Pd2 m2.length pd2) ∧ w'.cell? ⟨w.heap.size + 1, 0, none⟩ = some (.slice B0 m0.length d0) ∧ w'.cell? ⟨w.heap.size + 1, 1, none⟩ = some (.slice B1 m1.length d1) ∧ w'.cell? ⟨w.heap.size + 1, 2, none⟩ = some (.slice B2 m2.length d2)) (ds := []) #[false, false, false, false, false] (by kernel_rfl) rfl rfl ⟨(PB.mkx M9.out).1, (PB.mkx M9.out).2.1, (PB.mkx M9.out).2.2, PP.out.cells.2.2.2.1, PP.out.cells.2.2.2.2.1, PP.out.cells.2.2.2.2.2⟩ (fun hHeld => ?_)
      generalize wS14.drew = wG16 at PP M6 M8 M9 M10 hHeld ⊢
      refine take_ (i := 0) (N := some 59) (v := ?_) (a' := ?_) #[true, false, false, false, false] rfl rfl (by kernel_rfl) (fun _ _ _ h => h) (Or.inl ⟨by rfl, ?_⟩) hHeld ?_ ?_; rotate_left
      · rintro w' ⟨s0, s1, s2, s3, s4, s5⟩
        go_simp
        with_reducible rfl
      rotate_left
      · simp only [Act.put, List.setIfInBounds_toArray, List.set_cons_zero, List.set_cons_succ, i64_w, i32_w]
        rfl
      refine take_ (i := 1) (N := some 60) (v := ?_) (a' := ?_) #[true, true, false, false, false] rfl rfl (by kernel_rfl) (fun _ _ _ h => h) (Or.inl ⟨by rfl, ?_⟩) hHeld ?_ ?_; rotate_left
      · rintro w' ⟨s0, s1, s2, s3, s4, s5⟩
        go_simp
        with_reducible rfl
      rotate_left
      · simp only [Act.put, List.setIfInBounds_toArray, List.set_cons_zero, List.set_cons_succ, i64_w, i32_w]
        rfl
      refine one_ (i := 2) (N := some 61) #[true, true, true, false, false] rfl rfl (by kernel_rfl) (by decide) (fun K hK => ?_)
      refine goes_ Try.func15 (by kernel_rfl) rfl #[.agg #[.slice B0 m0.length d0, .slice B1 m1.length d1, .slice B2 m2.length d2]] (by rfl) rfl rfl (by (try simp only [List.map_toArray, List.map_cons, List.map_nil]); first | done | rfl | (simp only [List.length_drop, List.length_take]; rfl)) ?_
      refine (HTu.out _ PP.out.h).mono ?_
      rintro e wR16 ⟨t0, t1, t2, rfl, om_, fr_, hb_⟩
      obtain ⟨Pt0, pt0, Pt1, pt1, Pt2, pt2, rfl, rfl, rfl, _⟩ := om_.reads
      refine ⟨_, rfl, ?_⟩
      replace PP := Aside0.mk (PP.out.below hb_)
      replace M6 := Aside0.mk (M6.out.below hb_)
      replace M8 := Aside0.mk (M8.out.below hb_)
      replace M9 := Aside0.mk (M9.out.below hb_)
      replace M10 := Aside0.mk (M10.out.below hb_)
      have OT := Aside0.mk om_
      clear om_ fr_ hb_
      refine hK.out _ _ ⟨(PB.mkx M9.out).1, (PB.mkx M9.out).2.1, (PB.mkx M9.out).2.2, PP.out.cells.2.2.2.1, PP.out.cells.2.2.2.2.1, PP.out.cells.2.2.2.2.2⟩ (fun hHeld => ?_); clear hK K
      refine norm_ (a' := ?_) ?_ ?_; rotate_left
      · show Act.put _ (some 61) _ = _
        simp only [Act.put, List.setIfInBounds_toArray, List.set_cons_zero, List.set_cons_succ, i64_w, i32_w]
        rfl
      refine one_ (i := 3) (N := some 62) #[true, true, true, true, false] rfl rfl (by kernel_rfl) (by decide) (fun K hK => ?_)
      refine goes_ Try.func10 (by kernel_rfl) rfl #[.agg #[.slice Pd0 m0.length pd0, .slice Pd1 m1.length pd1, .slice Pd2 m2.length pd2], .agg #[.slice Pt0 m0.length pt0, .slice Pt1 m1.length pt1, .slice Pt2 m2.length pt2]] (by rfl) rfl rfl (by (try simp only [List.map_toArray, List.map_cons, List.map_nil]); first | done | rfl | (simp only [List.length_drop, List.length_take]; rfl)) ?_
      refine (calls_eq (w := w) M9.out.om OT.out HEm.out).mono ?_
      rintro e wS16 ⟨rfl, hb_⟩
      refine ⟨_, rfl, ?_⟩
      replace PP := Aside0.mk (PP.out.below hb_)
      replace M6 := Aside0.mk (M6.out.below hb_)
      replace M8 := Aside0.mk (M8.out.below hb_)
      replace M9 := Aside0.mk (M9.out.below hb_)
      replace M10 := Aside0.mk (M10.out.below hb_)
      clear OT hb_
      refine hK.out _ _ ⟨(PB.mkx M9.out).1, (PB.mkx M9.out).2.1, (PB.mkx M9.out).2.2, PP.out.cells.2.2.2.1, PP.out.cells.2.2.2.2.1, PP.out.cells.2.2.2.2.2⟩ (fun hHeld => ?_); clear hK K
      refine norm_ (a' := ?_) ?_ ?_; rotate_left
      · show Act.put _ (some 62) _ = _
        simp only [Act.put, List.setIfInBounds_toArray, List.set_cons_zero, List.set_cons_succ, i64_w, i32_w]
        rfl
      refine pure_ (i := 4) (N := some 63) (v := ?_) (a' := ?_) #[true, true, true, true, true] rfl rfl (by kernel_rfl) (fun _ _ _ h => h) (Or.inl ⟨by rfl, ?_⟩) ?_ ?_; rotate_left
      · intro w'
        go_simp
        with_reducible rfl
      rotate_left
      · simp only [Act.put, List.setIfInBounds_toArray, List.set_cons_zero, List.set_cons_succ, i64_w, i32_w]
        rfl
      refine done_ (by kernel_rfl) ?_
      clear hHeld
      obtain ⟨c8_0, c8_1, c8_2⟩ := PB.mkx M8.out
      go_upto_region 31 with (first | (go_at_call 11; (with_reducible refine (calls_mark (w := w) PP.out.h M8.out HMa.out).mono ?_); rintro e w30 ⟨rfl, m_, hb_, hk_⟩; have P1 := Aside0.mk (PP.out.kept M8.out.om hb_ hk_); have M6a := Aside0.mk (M6.out.kept hk_ Xab.out (M8.out.om.notbox M6.out.bx (by decide))); have M9a := Aside0.mk (M9.out.kept hk_ (fun k h h' => Xbd.out k h' h) (M8.out.om.notbox M9.out.bx (by decide))); have M10a := Aside0.mk (M10.out.kept hk_ (fun k h h' => Xbe.out k h' h) (M8.out.om.notbox M10.out.bx (by decide))); obtain ⟨c9_0, c9_1, c9_2⟩ := PB.mkx M9a.out; clear m_ hb_ hk_) | (go_at_call 11; (with_reducible refine (calls_mark (w := w) P1.out.h M9a.out HMb.out).mono ?_); rintro e w31 ⟨rfl, m_, hb_, hk_⟩; have P2 := Aside0.mk (P1.out.kept M9a.out.om hb_ hk_); have M6b := Aside0.mk (M6a.out.kept hk_ Xad.out (M9a.out.om.notbox M6a.out.bx (by decide))); have M10b := Aside0.mk (M10a.out.kept hk_ (fun k h h' => Xde.out k h' h) (M9a.out.om.notbox M10a.out.bx (by decide))); obtain ⟨c10_0, c10_1, c10_2⟩ := PB.mkx M10b.out; obtain ⟨c6_0, c6_1, c6_2⟩ := PB.mkx M6b.out; clear m_ hb_ hk_) | (go_at_call 10; (with_reducible refine (calls_eq (w := w) M10b.out.om M6b.out.om HEn.out).mono ?_); rintro e w32 ⟨rfl, hb_⟩; have P3 := Aside0.mk (P2.out.below hb_); have M6c := Aside0.mk (M6b.out.below hb_); have M10c := Aside0.mk (M10b.out.below hb_); obtain ⟨d10_0, d10_1, d10_2⟩ := PB.mkx M10c.out; clear hb_) | (go_at_call 11; (with_reducible refine (calls_mark (w := w) P3.out.h M10c.out HGa.out).mono ?_); rintro e w33 ⟨rfl, m_, hb_, hk_⟩; have P4 := Aside0.mk (P3.out.kept M10c.out.om hb_ hk_); have M6d := Aside0.mk (M6c.out.kept hk_ Xae.out (M10c.out.om.notbox M6c.out.bx (by decide))); have M10d := Aside0.mk (m_); obtain ⟨e10_0, e10_1, e10_2⟩ := PB.mkx M10d.out; clear m_ hb_ hk_) | (go_at_call 12; (with_reducible refine (calls_held (w := w) M10d.out.om HHe.out).mono ?_); rintro e w34 ⟨rfl, hb_⟩; have P5 := Aside0.mk (P4.out.below hb_); have M6e := Aside0.mk (M6d.out.below hb_); have M10e := Aside0.mk (M10d.out.below hb_); clear hb_))
      clear PP M6 M8 M9 M10 P1 M6a M9a M10a P2 M6b M10b P3 M6c M10c P4 M6d M10d
      have PP := P5
      have M6 := M6e
      have M10 := M10e
      clear P5 M6e M10e
      replace PP := Aside0.mk PP.out.drew
      replace M6 := Aside0.mk M6.out.drew
      replace M10 := Aside0.mk M10.out.drew
      refine start_ (n := 11) (S := fun w' => w'.cell? ⟨w.heap.size, 0, none⟩ = some (.slice A0 l0.length c0) ∧ w'.cell? ⟨w.heap.size, 1, none⟩ = some (.slice A1 l1.length c1) ∧ w'.cell? ⟨w.heap.size, 2, none⟩ = some (.slice A2 l2.length c2) ∧ w'.cell? ⟨w.heap.size + 1, 0, none⟩ = some (.slice B0 m0.length d0) ∧ w'.cell? ⟨w.heap.size + 1, 1, none⟩ = some (.slice B1 m1.length d1) ∧ w'.cell? ⟨w.heap.size + 1, 2, none⟩ = some (.slice B2 m2.length d2)) (ds := []) #[false, false, false, false, false, false, false, false, false, false, false] (by kernel_rfl) rfl rfl PP.out.cells (fun hHeld => ?_); refine with_tabW lawBoth.tab31 lawBoth.bits (fun HT_ HW_ => ?_)
      generalize w34.drew = wG31 at PP M6 M10 hHeld ⊢
      refine take_ (i := 0) (N := some 95) (v := ?_) (a' := ?_) #[true, false, false, false, false, false, false, false, false, false, false] rfl rfl (take_ofW HT_.out HW_.out (by kernel_rfl)) (fun _ _ _ h => h) (Or.inl ⟨by rfl, ?_⟩) hHeld ?_ ?_; rotate_left
      · rintro w' ⟨s0, s1, s2, s3, s4, s5⟩
        go_simp
        with_reducible rfl
      rotate_left
      · simp only [Act.put, List.setIfInBounds_toArray, List.set_cons_zero, List.set_cons_succ, i64_w, i32_w]
        rfl
      refine take_ (i := 2) (N := some 97) (v := ?_) (a' := ?_) #[true, false, true, false, false, false, false, false, false, false, false] rfl rfl (take_ofW HT_.out HW_.out (by kernel_rfl)) (fun _ _ _ h => h) (Or.inl ⟨by rfl, ?_⟩) hHeld ?_ ?_; rotate_left
      · rintro w' ⟨s0, s1, s2, s3, s4, s5⟩
        go_simp
        with_reducible rfl
      rotate_left
      · simp only [Act.put, List.setIfInBounds_toArray, List.set_cons_zero, List.set_cons_succ, i64_w, i32_w]
        rfl
      refine join_ (σ := Value × Value × Value × Value × Value × Value × Value × Value × Value × Nat) 2 #[true, true, true, true, true, true, true, true, true, false, false] (fun s_ => [(96, .agg #[s_.1, s_.2.1, s_.2.2.1]), (98, .agg #[s_.2.2.2.1, s_.2.2.2.2.1, s_.2.2.2.2.2.1]), (99, .tuple #[.agg #[s_.2.2.2.2.2.2.1, s_.2.2.2.2.2.2.2.1, s_.2.2.2.2.2.2.2.2.1], .bool F]), (15, .pointer (some ⟨s_.2.2.2.2.2.2.2.2.2, 0, none⟩)), (94, .tuple #[.agg #[s_.2.2.2.2.2.2.1, s_.2.2.2.2.2.2.2.1, s_.2.2.2.2.2.2.2.2.1], .bool F]), (100, .agg #[s_.2.2.2.2.2.2.1, s_.2.2.2.2.2.2.2.1, s_.2.2.2.2.2.2.2.2.1]), (101, .bool F)]) (fun s_ w' => (w'.cell? ⟨w.heap.size, 0, none⟩ = some (.slice A0 l0.length c0) ∧ w'.cell? ⟨w.heap.size, 1, none⟩ = some (.slice A1 l1.length c1) ∧ w'.cell? ⟨w.heap.size, 2, none⟩ = some (.slice A2 l2.length c2) ∧ w'.cell? ⟨w.heap.size + 1, 0, none⟩ = some (.slice B0 m0.length d0) ∧ w'.cell? ⟨w.heap.size + 1, 1, none⟩ = some (.slice B1 m1.length d1) ∧ w'.cell? ⟨w.heap.size + 1, 2, none⟩ = some (.slice B2 m2.length d2)) ∧ PB w (.slice A0 l0.length c0) (.slice A1 l1.length c1) (.slice A2 l2.length c2) (.slice B0 m0.length d0) (.slice B1 m1.length d1) (.slice B2 m2.length d2) w' ∧ Mx w w' g6 (.slice Pa0 n0.length pa0) (.slice Pa1 n1.length pa1) (.slice Pa2 n2.length pa2) n0 n1 n2 ∧ Mx w w' g10 (.slice Pe0 n0.length pe0) (.slice Pe1 n1.length pe1) (.slice Pe2 n2.length pe2) y0 y1 y2 ∧ OM w w' s_.2.2.2.2.2.2.1 s_.2.2.2.2.2.2.2.1 s_.2.2.2.2.2.2.2.2.1 n0 n1 n2 ∧ w'.heap[s_.2.2.2.2.2.2.2.2.2]? = some (.cells #[.slice none 0 0, .slice none 0 0, .slice none 0 0] 24 (0, 0)) ∧ (w.heap.size ≠ s_.2.2.2.2.2.2.2.2.2 ∧ w.heap.size + 1 ≠ s_.2.2.2.2.2.2.2.2.2 ∧ w.heap.size ≤ s_.2.2.2.2.2.2.2.2.2) ∧ g6 ≠ s_.2.2.2.2.2.2.2.2.2 ∧ g10 ≠ s_.2.2.2.2.2.2.2.2.2) ?_ ?_
      rotate_left
      · intro hCont
        refine two_ (i := 1) (j := 8) (Ni := some 96) (Nj := some 15) #[true, true, true, false, false, false, false, false, false, false, false] #[true, false, true, false, false, false, false, false, true, false, false] rfl rfl rfl rfl (two_of HT_.out (by kernel_rfl)) (by decide) (by decide) (fun K hK => ?_) (fun K hK => ?_)
        · skip
          refine goes_ Try.func15 (by kernel_rfl) rfl #[.agg #[.slice A0 l0.length c0, .slice A1 l1.length c1, .slice A2 l2.length c2]] (by rfl) rfl rfl (by (try simp only [List.map_toArray, List.map_cons, List.map_nil]); first | done | rfl | (simp only [List.length_drop, List.length_take]; rfl)) ?_
          refine (HTo.out _ PP.out.h).mono ?_
          rintro e wX0 ⟨t0, t1, t2, rfl, om_, fr_, hb_⟩
          obtain ⟨Pt0, pt0, Pt1, pt1, Pt2, pt2, rfl, rfl, rfl, _⟩ := om_.reads
          refine ⟨_, rfl, ?_⟩
          replace PP := Aside0.mk (PP.out.below hb_)
          replace M6 := Aside0.mk (M6.out.below hb_)
          replace M10 := Aside0.mk (M10.out.below hb_)
          have OA := Aside0.mk om_
          clear om_ fr_ hb_
          refine hK.out _ _ PP.out.cells (fun hHeld => ?_); clear hK K
          refine norm_ (a' := ?_) ?_ ?_; rotate_left
          · show Act.put _ (some 96) _ = _
            simp only [Act.put, List.setIfInBounds_toArray, List.set_cons_zero, List.set_cons_succ, i64_w, i32_w]
            rfl
          refine two_ (i := 3) (j := 8) (Ni := some 98) (Nj := some 15) #[true, true, true, true, false, false, false, false, false, false, false] #[true, true, true, false, false, false, false, false, true, false, false] rfl rfl rfl rfl (two_of HT_.out (by kernel_rfl)) (by decide) (by decide) (fun K hK => ?_) (fun K hK => ?_)
          · skip
            refine goes_ Try.func15 (by kernel_rfl) rfl #[.agg #[.slice B0 m0.length d0, .slice B1 m1.length d1, .slice B2 m2.length d2]] (by rfl) rfl rfl (by (try simp only [List.map_toArray, List.map_cons, List.map_nil]); first | done | rfl | (simp only [List.length_drop, List.length_take]; rfl)) ?_
            refine (HTu.out _ PP.out.h).mono ?_
            rintro e wX1 ⟨u0, u1, u2, rfl, om_, fr_, hb_⟩
            obtain ⟨Pu0, pu0, Pu1, pu1, Pu2, pu2, rfl, rfl, rfl, _⟩ := om_.reads
            refine ⟨_, rfl, ?_⟩
            replace PP := Aside0.mk (PP.out.below hb_)
            replace M6 := Aside0.mk (M6.out.below hb_)
            replace M10 := Aside0.mk (M10.out.below hb_)
            replace OA := Aside0.mk (OA.out.below hb_)
            have OB := Aside0.mk om_
            clear om_ fr_ hb_
            refine hK.out _ _ PP.out.cells (fun hHeld => ?_); clear hK K
            refine norm_ (a' := ?_) ?_ ?_; rotate_left
            · show Act.put _ (some 98) _ = _
              simp only [Act.put, List.setIfInBounds_toArray, List.set_cons_zero, List.set_cons_succ, i64_w, i32_w]
              rfl
            refine two_ (i := 4) (j := 8) (Ni := some 99) (Nj := some 15) #[true, true, true, true, true, false, false, false, false, false, false] #[true, true, true, true, false, false, false, false, true, false, false] rfl rfl rfl rfl (two_of HT_.out (by kernel_rfl)) (by decide) (by decide) (fun K hK => ?_) (fun K hK => ?_)
            · skip
              refine goes_ Try.func16 (by kernel_rfl) rfl #[.agg #[.slice Pt0 l0.length pt0, .slice Pt1 l1.length pt1, .slice Pt2 l2.length pt2], .agg #[.slice Pu0 m0.length pu0, .slice Pu1 m1.length pu1, .slice Pu2 m2.length pu2]] (by rfl) rfl rfl (by (try simp only [List.map_toArray, List.map_cons, List.map_nil]); first | done | rfl | (simp only [List.length_drop, List.length_take]; rfl)) ?_
              refine (calls_impl (w := w) (below_size PP.out.h) OA.out OB.out HIm.out).mono ?_
              rintro e wX2 ⟨a0, a1, a2, rfl, om_, fr_, hb_⟩
              refine ⟨_, rfl, ?_⟩
              replace PP := Aside0.mk (PP.out.below hb_)
              replace M6 := Aside0.mk (M6.out.below hb_)
              replace M10 := Aside0.mk (M10.out.below hb_)
              replace OA := Aside0.mk (OA.out.below hb_)
              replace OB := Aside0.mk (OB.out.below hb_)
              have OC := Aside0.mk om_
              clear om_ fr_ hb_
              refine hK.out _ _ PP.out.cells (fun hHeld => ?_); clear hK K
              refine norm_ (a' := ?_) ?_ ?_; rotate_left
              · show Act.put _ (some 99) _ = _
                simp only [Act.put, List.setIfInBounds_toArray, List.set_cons_zero, List.set_cons_succ, i64_w, i32_w]
                rfl
              refine pure_ (i := 5) (N := some 94) (v := ?_) (a' := ?_) #[true, true, true, true, true, true, false, false, false, false, false] rfl rfl (any_of HT_.out (by kernel_rfl)) (fun _ _ _ h => h) (Or.inl ⟨by rfl, ?_⟩) ?_ ?_; rotate_left
              · intro w'
                go_simp
                with_reducible rfl
              rotate_left
              · simp only [Act.put, List.setIfInBounds_toArray, List.set_cons_zero, List.set_cons_succ, i64_w, i32_w]
                rfl
              refine pure_ (i := 6) (N := some 100) (v := ?_) (a' := ?_) #[true, true, true, true, true, true, true, false, false, false, false] rfl rfl (any_of HT_.out (by kernel_rfl)) (fun _ _ _ h => h) (Or.inl ⟨by rfl, ?_⟩) ?_ ?_; rotate_left
              · intro w'
                go_simp
                with_reducible rfl
              rotate_left
              · simp only [Act.put, List.setIfInBounds_toArray, List.set_cons_zero, List.set_cons_succ, i64_w, i32_w]
                rfl
              refine pure_ (i := 7) (N := some 101) (v := ?_) (a' := ?_) #[true, true, true, true, true, true, true, true, false, false, false] rfl rfl (any_of HT_.out (by kernel_rfl)) (fun _ _ _ h => h) (Or.inl ⟨by rfl, ?_⟩) ?_ ?_; rotate_left
              · intro w'
                go_simp
                with_reducible rfl
              rotate_left
              · simp only [Act.put, List.setIfInBounds_toArray, List.set_cons_zero, List.set_cons_succ, i64_w, i32_w]
                rfl
              refine one_ (i := 8) (N := some 15) #[true, true, true, true, true, true, true, true, true, false, false] rfl rfl (one_of HT_.out (by kernel_rfl)) (by decide) (fun K hK => ?_)
              refine box_step ?hg (N := 15) ?hd (cs := #[.slice none 0 0, .slice none 0 0, .slice none 0 0]) (t := 24) ?hr ?_; (case hd => rfl); (case hg => rfl); (case hr => first | (go_simp; done) | (go_simp; rfl)); intro gz hgz wz hbox hb_
              have NZ := Aside0.mk (PP.out.ne hgz)
              have NZM6 := Aside0.mk (show g6 ≠ gz by have := blk_lt M6.out.bx; omega)
              have NZM10 := Aside0.mk (show g10 ≠ gz by have := blk_lt M10.out.bx; omega)
              replace PP := Aside0.mk (PP.out.below hb_)
              replace M6 := Aside0.mk (M6.out.below hb_)
              replace M10 := Aside0.mk (M10.out.below hb_)
              replace OA := Aside0.mk (OA.out.below hb_)
              replace OB := Aside0.mk (OB.out.below hb_)
              replace OC := Aside0.mk (OC.out.below hb_)
              have BZ := Aside0.mk hbox
              clear hbox hb_ hgz
              refine hK.out _ _ PP.out.cells (fun hHeld => ?_); clear hK K
              refine norm_ (a' := ?_) ?_ ?_; rotate_left
              · show Act.put _ (some 15) _ = _
                simp only [Act.put, List.setIfInBounds_toArray, List.set_cons_zero, List.set_cons_succ, i64_w, i32_w]
                rfl
              exact norm_ (by simp only [putAll, Act.put, List.setIfInBounds_toArray, List.set_cons_zero, List.set_cons_succ]) (hCont (.slice Pt0 l0.length pt0, .slice Pt1 l1.length pt1, .slice Pt2 l2.length pt2, .slice Pu0 m0.length pu0, .slice Pu1 m1.length pu1, .slice Pu2 m2.length pu2, a0, a1, a2, gz) _ ⟨hHeld, PP.out, M6.out, M10.out, OC.out, BZ.out, NZ.out, NZM6.out, NZM10.out⟩)
            · skip
              refine box_step ?hg (N := 15) ?hd (cs := #[.slice none 0 0, .slice none 0 0, .slice none 0 0]) (t := 24) ?hr ?_; (case hd => rfl); (case hg => rfl); (case hr => first | (go_simp; done) | (go_simp; rfl)); intro gz hgz wz hbox hb_
              have NZ := Aside0.mk (PP.out.ne hgz)
              have NZM6 := Aside0.mk (show g6 ≠ gz by have := blk_lt M6.out.bx; omega)
              have NZM10 := Aside0.mk (show g10 ≠ gz by have := blk_lt M10.out.bx; omega)
              replace PP := Aside0.mk (PP.out.below hb_)
              replace M6 := Aside0.mk (M6.out.below hb_)
              replace M10 := Aside0.mk (M10.out.below hb_)
              replace OA := Aside0.mk (OA.out.below hb_)
              replace OB := Aside0.mk (OB.out.below hb_)
              have BZ := Aside0.mk hbox
              clear hbox hb_ hgz
              refine hK.out _ _ PP.out.cells (fun hHeld => ?_); clear hK K
              refine norm_ (a' := ?_) ?_ ?_; rotate_left
              · show Act.put _ (some 15) _ = _
                simp only [Act.put, List.setIfInBounds_toArray, List.set_cons_zero, List.set_cons_succ, i64_w, i32_w]
                rfl
              refine one_ (i := 4) (N := some 99) #[true, true, true, true, true, false, false, false, true, false, false] rfl rfl (one_of HT_.out (by kernel_rfl)) (by decide) (fun K hK => ?_)
              refine goes_ Try.func16 (by kernel_rfl) rfl #[.agg #[.slice Pt0 l0.length pt0, .slice Pt1 l1.length pt1, .slice Pt2 l2.length pt2], .agg #[.slice Pu0 m0.length pu0, .slice Pu1 m1.length pu1, .slice Pu2 m2.length pu2]] (by rfl) rfl rfl (by (try simp only [List.map_toArray, List.map_cons, List.map_nil]); first | done | rfl | (simp only [List.length_drop, List.length_take]; rfl)) ?_
              refine (calls_impl (w := w) (below_size PP.out.h) OA.out OB.out HIm.out).mono ?_
              rintro e wX2 ⟨a0, a1, a2, rfl, om_, fr_, hb_⟩
              refine ⟨_, rfl, ?_⟩
              replace PP := Aside0.mk (PP.out.below hb_)
              replace M6 := Aside0.mk (M6.out.below hb_)
              replace M10 := Aside0.mk (M10.out.below hb_)
              replace OA := Aside0.mk (OA.out.below hb_)
              replace OB := Aside0.mk (OB.out.below hb_)
              replace BZ := Aside0.mk (blk_below BZ.out hb_)
              have OC := Aside0.mk om_
              clear om_ fr_ hb_
              refine hK.out _ _ PP.out.cells (fun hHeld => ?_); clear hK K
              refine norm_ (a' := ?_) ?_ ?_; rotate_left
              · show Act.put _ (some 99) _ = _
                simp only [Act.put, List.setIfInBounds_toArray, List.set_cons_zero, List.set_cons_succ, i64_w, i32_w]
                rfl
              refine pure_ (i := 5) (N := some 94) (v := ?_) (a' := ?_) #[true, true, true, true, true, true, false, false, true, false, false] rfl rfl (any_of HT_.out (by kernel_rfl)) (fun _ _ _ h => h) (Or.inl ⟨by rfl, ?_⟩) ?_ ?_; rotate_left
              · intro w'
                go_simp
                with_reducible rfl
              rotate_left
              · simp only [Act.put, List.setIfInBounds_toArray, List.set_cons_zero, List.set_cons_succ, i64_w, i32_w]
                rfl
              refine pure_ (i := 6) (N := some 100) (v := ?_) (a' := ?_) #[true, true, true, true, true, true, true, false, true, false, false] rfl rfl (any_of HT_.out (by kernel_rfl)) (fun _ _ _ h => h) (Or.inl ⟨by rfl, ?_⟩) ?_ ?_; rotate_left
              · intro w'
                go_simp
                with_reducible rfl
              rotate_left
              · simp only [Act.put, List.setIfInBounds_toArray, List.set_cons_zero, List.set_cons_succ, i64_w, i32_w]
                rfl
              refine pure_ (i := 7) (N := some 101) (v := ?_) (a' := ?_) #[true, true, true, true, true, true, true, true, true, false, false] rfl rfl (any_of HT_.out (by kernel_rfl)) (fun _ _ _ h => h) (Or.inl ⟨by rfl, ?_⟩) ?_ ?_; rotate_left
              · intro w'
                go_simp
                with_reducible rfl
              rotate_left
              · simp only [Act.put, List.setIfInBounds_toArray, List.set_cons_zero, List.set_cons_succ, i64_w, i32_w]
                rfl
              exact norm_ (by simp only [putAll, Act.put, List.setIfInBounds_toArray, List.set_cons_zero, List.set_cons_succ]) (hCont (.slice Pt0 l0.length pt0, .slice Pt1 l1.length pt1, .slice Pt2 l2.length pt2, .slice Pu0 m0.length pu0, .slice Pu1 m1.length pu1, .slice Pu2 m2.length pu2, a0, a1, a2, gz) _ ⟨hHeld, PP.out, M6.out, M10.out, OC.out, BZ.out, NZ.out, NZM6.out, NZM10.out⟩)
          · skip
            refine box_step ?hg (N := 15) ?hd (cs := #[.slice none 0 0, .slice none 0 0, .slice none 0 0]) (t := 24) ?hr ?_; (case hd => rfl); (case hg => rfl); (case hr => first | (go_simp; done) | (go_simp; rfl)); intro gz hgz wz hbox hb_
            have NZ := Aside0.mk (PP.out.ne hgz)
            have NZM6 := Aside0.mk (show g6 ≠ gz by have := blk_lt M6.out.bx; omega)
            have NZM10 := Aside0.mk (show g10 ≠ gz by have := blk_lt M10.out.bx; omega)
            replace PP := Aside0.mk (PP.out.below hb_)
            replace M6 := Aside0.mk (M6.out.below hb_)
            replace M10 := Aside0.mk (M10.out.below hb_)
            replace OA := Aside0.mk (OA.out.below hb_)
            have BZ := Aside0.mk hbox
            clear hbox hb_ hgz
            refine hK.out _ _ PP.out.cells (fun hHeld => ?_); clear hK K
            refine norm_ (a' := ?_) ?_ ?_; rotate_left
            · show Act.put _ (some 15) _ = _
              simp only [Act.put, List.setIfInBounds_toArray, List.set_cons_zero, List.set_cons_succ, i64_w, i32_w]
              rfl
            refine one_ (i := 3) (N := some 98) #[true, true, true, true, false, false, false, false, true, false, false] rfl rfl (one_of HT_.out (by kernel_rfl)) (by decide) (fun K hK => ?_)
            refine goes_ Try.func15 (by kernel_rfl) rfl #[.agg #[.slice B0 m0.length d0, .slice B1 m1.length d1, .slice B2 m2.length d2]] (by rfl) rfl rfl (by (try simp only [List.map_toArray, List.map_cons, List.map_nil]); first | done | rfl | (simp only [List.length_drop, List.length_take]; rfl)) ?_
            refine (HTu.out _ PP.out.h).mono ?_
            rintro e wX1 ⟨u0, u1, u2, rfl, om_, fr_, hb_⟩
            obtain ⟨Pu0, pu0, Pu1, pu1, Pu2, pu2, rfl, rfl, rfl, _⟩ := om_.reads
            refine ⟨_, rfl, ?_⟩
            replace PP := Aside0.mk (PP.out.below hb_)
            replace M6 := Aside0.mk (M6.out.below hb_)
            replace M10 := Aside0.mk (M10.out.below hb_)
            replace OA := Aside0.mk (OA.out.below hb_)
            replace BZ := Aside0.mk (blk_below BZ.out hb_)
            have OB := Aside0.mk om_
            clear om_ fr_ hb_
            refine hK.out _ _ PP.out.cells (fun hHeld => ?_); clear hK K
            refine norm_ (a' := ?_) ?_ ?_; rotate_left
            · show Act.put _ (some 98) _ = _
              simp only [Act.put, List.setIfInBounds_toArray, List.set_cons_zero, List.set_cons_succ, i64_w, i32_w]
              rfl
            refine one_ (i := 4) (N := some 99) #[true, true, true, true, true, false, false, false, true, false, false] rfl rfl (one_of HT_.out (by kernel_rfl)) (by decide) (fun K hK => ?_)
            refine goes_ Try.func16 (by kernel_rfl) rfl #[.agg #[.slice Pt0 l0.length pt0, .slice Pt1 l1.length pt1, .slice Pt2 l2.length pt2], .agg #[.slice Pu0 m0.length pu0, .slice Pu1 m1.length pu1, .slice Pu2 m2.length pu2]] (by rfl) rfl rfl (by (try simp only [List.map_toArray, List.map_cons, List.map_nil]); first | done | rfl | (simp only [List.length_drop, List.length_take]; rfl)) ?_
            refine (calls_impl (w := w) (below_size PP.out.h) OA.out OB.out HIm.out).mono ?_
            rintro e wX2 ⟨a0, a1, a2, rfl, om_, fr_, hb_⟩
            refine ⟨_, rfl, ?_⟩
            replace PP := Aside0.mk (PP.out.below hb_)
            replace M6 := Aside0.mk (M6.out.below hb_)
            replace M10 := Aside0.mk (M10.out.below hb_)
            replace OA := Aside0.mk (OA.out.below hb_)
            replace OB := Aside0.mk (OB.out.below hb_)
            replace BZ := Aside0.mk (blk_below BZ.out hb_)
            have OC := Aside0.mk om_
            clear om_ fr_ hb_
            refine hK.out _ _ PP.out.cells (fun hHeld => ?_); clear hK K
            refine norm_ (a' := ?_) ?_ ?_; rotate_left
            · show Act.put _ (some 99) _ = _
              simp only [Act.put, List.setIfInBounds_toArray, List.set_cons_zero, List.set_cons_succ, i64_w, i32_w]
              rfl
            refine pure_ (i := 5) (N := some 94) (v := ?_) (a' := ?_) #[true, true, true, true, true, true, false, false, true, false, false] rfl rfl (any_of HT_.out (by kernel_rfl)) (fun _ _ _ h => h) (Or.inl ⟨by rfl, ?_⟩) ?_ ?_; rotate_left
            · intro w'
              go_simp
              with_reducible rfl
            rotate_left
            · simp only [Act.put, List.setIfInBounds_toArray, List.set_cons_zero, List.set_cons_succ, i64_w, i32_w]
              rfl
            refine pure_ (i := 6) (N := some 100) (v := ?_) (a' := ?_) #[true, true, true, true, true, true, true, false, true, false, false] rfl rfl (any_of HT_.out (by kernel_rfl)) (fun _ _ _ h => h) (Or.inl ⟨by rfl, ?_⟩) ?_ ?_; rotate_left
            · intro w'
              go_simp
              with_reducible rfl
            rotate_left
            · simp only [Act.put, List.setIfInBounds_toArray, List.set_cons_zero, List.set_cons_succ, i64_w, i32_w]
              rfl
            refine pure_ (i := 7) (N := some 101) (v := ?_) (a' := ?_) #[true, true, true, true, true, true, true, true, true, false, false] rfl rfl (any_of HT_.out (by kernel_rfl)) (fun _ _ _ h => h) (Or.inl ⟨by rfl, ?_⟩) ?_ ?_; rotate_left
            · intro w'
              go_simp
              with_reducible rfl
            rotate_left
            · simp only [Act.put, List.setIfInBounds_toArray, List.set_cons_zero, List.set_cons_succ, i64_w, i32_w]
              rfl
            exact norm_ (by simp only [putAll, Act.put, List.setIfInBounds_toArray, List.set_cons_zero, List.set_cons_succ]) (hCont (.slice Pt0 l0.length pt0, .slice Pt1 l1.length pt1, .slice Pt2 l2.length pt2, .slice Pu0 m0.length pu0, .slice Pu1 m1.length pu1, .slice Pu2 m2.length pu2, a0, a1, a2, gz) _ ⟨hHeld, PP.out, M6.out, M10.out, OC.out, BZ.out, NZ.out, NZM6.out, NZM10.out⟩)
        · skip
          refine box_step ?hg (N := 15) ?hd (cs := #[.slice none 0 0, .slice none 0 0, .slice none 0 0]) (t := 24) ?hr ?_; (case hd => rfl); (case hg => rfl); (case hr => first | (go_simp; done) | (go_simp; rfl)); intro gz hgz wz hbox hb_
          have NZ := Aside0.mk (PP.out.ne hgz)
          have NZM6 := Aside0.mk (show g6 ≠ gz by have := blk_lt M6.out.bx; omega)
          have NZM10 := Aside0.mk (show g10 ≠ gz by have := blk_lt M10.out.bx; omega)
          replace PP := Aside0.mk (PP.out.below hb_)
          replace M6 := Aside0.mk (M6.out.below hb_)
          replace M10 := Aside0.mk (M10.out.below hb_)
          have BZ := Aside0.mk hbox
          clear hbox hb_ hgz
          refine hK.out _ _ PP.out.cells (fun hHeld => ?_); clear hK K
          refine norm_ (a' := ?_) ?_ ?_; rotate_left
          · show Act.put _ (some 15) _ = _
            simp only [Act.put, List.setIfInBounds_toArray, List.set_cons_zero, List.set_cons_succ, i64_w, i32_w]
            rfl
          refine one_ (i := 1) (N := some 96) #[true, true, true, false, false, false, false, false, true, false, false] rfl rfl (one_of HT_.out (by kernel_rfl)) (by decide) (fun K hK => ?_)
          refine goes_ Try.func15 (by kernel_rfl) rfl #[.agg #[.slice A0 l0.length c0, .slice A1 l1.length c1, .slice A2 l2.length c2]] (by rfl) rfl rfl (by (try simp only [List.map_toArray, List.map_cons, List.map_nil]); first | done | rfl | (simp only [List.length_drop, List.length_take]; rfl)) ?_
          refine (HTo.out _ PP.out.h).mono ?_
          rintro e wX0 ⟨t0, t1, t2, rfl, om_, fr_, hb_⟩
          obtain ⟨Pt0, pt0, Pt1, pt1, Pt2, pt2, rfl, rfl, rfl, _⟩ := om_.reads
          refine ⟨_, rfl, ?_⟩
          replace PP := Aside0.mk (PP.out.below hb_)
          replace M6 := Aside0.mk (M6.out.below hb_)
          replace M10 := Aside0.mk (M10.out.below hb_)
          replace BZ := Aside0.mk (blk_below BZ.out hb_)
          have OA := Aside0.mk om_
          clear om_ fr_ hb_
          refine hK.out _ _ PP.out.cells (fun hHeld => ?_); clear hK K
          refine norm_ (a' := ?_) ?_ ?_; rotate_left
          · show Act.put _ (some 96) _ = _
            simp only [Act.put, List.setIfInBounds_toArray, List.set_cons_zero, List.set_cons_succ, i64_w, i32_w]
            rfl
          refine one_ (i := 3) (N := some 98) #[true, true, true, true, false, false, false, false, true, false, false] rfl rfl (one_of HT_.out (by kernel_rfl)) (by decide) (fun K hK => ?_)
          refine goes_ Try.func15 (by kernel_rfl) rfl #[.agg #[.slice B0 m0.length d0, .slice B1 m1.length d1, .slice B2 m2.length d2]] (by rfl) rfl rfl (by (try simp only [List.map_toArray, List.map_cons, List.map_nil]); first | done | rfl | (simp only [List.length_drop, List.length_take]; rfl)) ?_
          refine (HTu.out _ PP.out.h).mono ?_
          rintro e wX1 ⟨u0, u1, u2, rfl, om_, fr_, hb_⟩
          obtain ⟨Pu0, pu0, Pu1, pu1, Pu2, pu2, rfl, rfl, rfl, _⟩ := om_.reads
          refine ⟨_, rfl, ?_⟩
          replace PP := Aside0.mk (PP.out.below hb_)
          replace M6 := Aside0.mk (M6.out.below hb_)
          replace M10 := Aside0.mk (M10.out.below hb_)
          replace OA := Aside0.mk (OA.out.below hb_)
          replace BZ := Aside0.mk (blk_below BZ.out hb_)
          have OB := Aside0.mk om_
          clear om_ fr_ hb_
          refine hK.out _ _ PP.out.cells (fun hHeld => ?_); clear hK K
          refine norm_ (a' := ?_) ?_ ?_; rotate_left
          · show Act.put _ (some 98) _ = _
            simp only [Act.put, List.setIfInBounds_toArray, List.set_cons_zero, List.set_cons_succ, i64_w, i32_w]
            rfl
          refine one_ (i := 4) (N := some 99) #[true, true, true, true, true, false, false, false, true, false, false] rfl rfl (one_of HT_.out (by kernel_rfl)) (by decide) (fun K hK => ?_)
          refine goes_ Try.func16 (by kernel_rfl) rfl #[.agg #[.slice Pt0 l0.length pt0, .slice Pt1 l1.length pt1, .slice Pt2 l2.length pt2], .agg #[.slice Pu0 m0.length pu0, .slice Pu1 m1.length pu1, .slice Pu2 m2.length pu2]] (by rfl) rfl rfl (by (try simp only [List.map_toArray, List.map_cons, List.map_nil]); first | done | rfl | (simp only [List.length_drop, List.length_take]; rfl)) ?_
          refine (calls_impl (w := w) (below_size PP.out.h) OA.out OB.out HIm.out).mono ?_
          rintro e wX2 ⟨a0, a1, a2, rfl, om_, fr_, hb_⟩
          refine ⟨_, rfl, ?_⟩
          replace PP := Aside0.mk (PP.out.below hb_)
          replace M6 := Aside0.mk (M6.out.below hb_)
          replace M10 := Aside0.mk (M10.out.below hb_)
          replace OA := Aside0.mk (OA.out.below hb_)
          replace OB := Aside0.mk (OB.out.below hb_)
          replace BZ := Aside0.mk (blk_below BZ.out hb_)
          have OC := Aside0.mk om_
          clear om_ fr_ hb_
          refine hK.out _ _ PP.out.cells (fun hHeld => ?_); clear hK K
          refine norm_ (a' := ?_) ?_ ?_; rotate_left
          · show Act.put _ (some 99) _ = _
            simp only [Act.put, List.setIfInBounds_toArray, List.set_cons_zero, List.set_cons_succ, i64_w, i32_w]
            rfl
          refine pure_ (i := 5) (N := some 94) (v := ?_) (a' := ?_) #[true, true, true, true, true, true, false, false, true, false, false] rfl rfl (any_of HT_.out (by kernel_rfl)) (fun _ _ _ h => h) (Or.inl ⟨by rfl, ?_⟩) ?_ ?_; rotate_left
          · intro w'
            go_simp
            with_reducible rfl
          rotate_left
          · simp only [Act.put, List.setIfInBounds_toArray, List.set_cons_zero, List.set_cons_succ, i64_w, i32_w]
            rfl
          refine pure_ (i := 6) (N := some 100) (v := ?_) (a' := ?_) #[true, true, true, true, true, true, true, false, true, false, false] rfl rfl (any_of HT_.out (by kernel_rfl)) (fun _ _ _ h => h) (Or.inl ⟨by rfl, ?_⟩) ?_ ?_; rotate_left
          · intro w'
            go_simp
            with_reducible rfl
          rotate_left
          · simp only [Act.put, List.setIfInBounds_toArray, List.set_cons_zero, List.set_cons_succ, i64_w, i32_w]
            rfl
          refine pure_ (i := 7) (N := some 101) (v := ?_) (a' := ?_) #[true, true, true, true, true, true, true, true, true, false, false] rfl rfl (any_of HT_.out (by kernel_rfl)) (fun _ _ _ h => h) (Or.inl ⟨by rfl, ?_⟩) ?_ ?_; rotate_left
          · intro w'
            go_simp
            with_reducible rfl
          rotate_left
          · simp only [Act.put, List.setIfInBounds_toArray, List.set_cons_zero, List.set_cons_succ, i64_w, i32_w]
            rfl
          exact norm_ (by simp only [putAll, Act.put, List.setIfInBounds_toArray, List.set_cons_zero, List.set_cons_succ]) (hCont (.slice Pt0 l0.length pt0, .slice Pt1 l1.length pt1, .slice Pt2 l2.length pt2, .slice Pu0 m0.length pu0, .slice Pu1 m1.length pu1, .slice Pu2 m2.length pu2, a0, a1, a2, gz) _ ⟨hHeld, PP.out, M6.out, M10.out, OC.out, BZ.out, NZ.out, NZM6.out, NZM10.out⟩)
      rintro ⟨t0, t1, t2, u0, u1, u2, f0, f1, f2, g15⟩ wJ31 ⟨hS_, p_, mM6_, mM10_, o_, z_, n_, nM6_, nM10_⟩
      replace PP := Aside0.mk p_
      replace M6 := Aside0.mk mM6_
      replace M10 := Aside0.mk mM10_
      obtain ⟨Pf0, pf0, Pf1, pf1, Pf2, pf2, rfl, rfl, rfl, _⟩ := o_.reads
      refine norm_ (a' := ?_) ?_ ?_; rotate_left
      · simp only [putAll, Act.put, List.setIfInBounds_toArray, List.set_cons_zero, List.set_cons_succ]
        rfl
      refine one_ (i := 9) (N := none) #[true, true, true, true, true, true, true, true, true, true, false] rfl rfl (one_of HT_.out (by kernel_rfl)) (by decide) (fun K hK => ?_)
      have hz31_0 : wJ31.cell? ⟨g15, 0, none⟩ = some (.slice none 0 0) := (blk_cell z_ 0).trans rfl
      have hf31_0 := blk_frozen z_ 0
      have hz31_1 : wJ31.cell? ⟨g15, 1, none⟩ = some (.slice none 0 0) := (blk_cell z_ 1).trans rfl
      have hf31_1 := blk_frozen z_ 1
      have hz31_2 : wJ31.cell? ⟨g15, 2, none⟩ = some (.slice none 0 0) := (blk_cell z_ 2).trans rfl
      have hf31_2 := blk_frozen z_ 2
      refine skip_ (w1 := ?_) (by rfl) rfl ?_ ?_; rotate_left
      · go_simp
        rfl
      have M_f := Aside0.mk (o_.boxed2 z_)
      replace M6 := Aside0.mk (M6.out.beside2 z_ nM6_ (.slice Pf0 n0.length pf0) (.slice Pf1 n1.length pf1) (.slice Pf2 n2.length pf2))
      replace M10 := Aside0.mk (M10.out.beside2 z_ nM10_ (.slice Pf0 n0.length pf0) (.slice Pf1 n1.length pf1) (.slice Pf2 n2.length pf2))
      replace PP := Aside0.mk (PP.out.fill n_ (.slice Pf0 n0.length pf0) (.slice Pf1 n1.length pf1) (.slice Pf2 n2.length pf2))
      refine hK.out _ _ PP.out.cells (fun hHeld => ?_); clear hK K
      refine pure_ (i := 10) (N := some 16) (v := ?_) (a' := ?_) #[true, true, true, true, true, true, true, true, true, true, true] rfl rfl (any_of HT_.out (by kernel_rfl)) (fun _ _ _ h => h) (Or.inl ⟨by rfl, ?_⟩) ?_ ?_; rotate_left
      · intro w'
        go_simp
        with_reducible rfl
      rotate_left
      · simp only [Act.put, List.setIfInBounds_toArray, List.set_cons_zero, List.set_cons_succ, i64_w, i32_w]
        rfl
      refine done_ (done_of HT_.out (by kernel_rfl)) ?_
      clear hHeld hS_ p_ o_ z_ n_ mM6_ nM6_ mM10_ nM10_ HT_ HW_ hz31_0 hf31_0 hz31_1 hf31_1 hz31_2 hf31_2
      generalize (((wJ31.setCell ⟨g15, 0, none⟩ (.slice Pf0 n0.length pf0)).setCell ⟨g15, 1, none⟩ (.slice Pf1 n1.length pf1)).setCell ⟨g15, 2, none⟩ (.slice Pf2 n2.length pf2)) = wF31 at PP M_f M6 M10 ⊢
      obtain ⟨c15_0, c15_1, c15_2⟩ := PB.mkx M_f.out
      obtain ⟨f6_0, f6_1, f6_2⟩ := PB.mkx M6.out
      go_wp2_with (first | (go_at_call 10; (with_reducible refine (calls_eq (w := w) M_f.out.om M6.out.om HEn.out).mono ?_); rintro e w40 ⟨rfl, hb_⟩; have P1 := Aside0.mk (PP.out.below hb_); have M10a := Aside0.mk (M10.out.below hb_); obtain ⟨f10_0, f10_1, f10_2⟩ := PB.mkx M10a.out; clear hb_) | (go_at_call 12; (with_reducible refine (calls_held (w := w) M10a.out.om HHe.out).mono ?_); rintro e w41 ⟨rfl, hb_⟩; have P2 := Aside0.mk (P1.out.below hb_); clear hb_))
      go_ret
      exact ⟨rfl, P2.out.h⟩
end Go.Proofs.Ytgaapfldimokpaa.Man
