/- spec.l4Count: a machine that counts, over a row that is handed on; no condition. -/
import Derived.Test.YthodcgkhianecaaDoorSemBase
import Derived.Test.YthodcgkhianecaaDoorPAx1
namespace Go.Proofs.YthodcgkhianecaaDoor.Man
open Go.RowKit Go.Proofs.YthodcgkhianecaaDoor.PA Go.Proofs.YthodcgkhianecaaDoorW.PrintWords Go.Proofs.YthodcgkhianecaaDoorW.PrintLast Go.Proofs.YthodcgkhianecaaDoorW.PrintMore
set_option linter.unusedVariables false
set_option linter.unusedSimpArgs false

def countNext (st : Int) (ring : Bool) (i : Int) : Int := if wrap64 (i + 1) = st then (if ring = true then 0 else wrap64 (i + 1)) else wrap64 (i + 1)
def count0 : Nat → Int → Bool → Int → List Int → List Int → Option (List Int × List Int)
  | 0, _, _, _, _, _ => none
  | k + 1, st, ring, i, z, o => if i < st then (if z.length < 17592186044416 then (if o.length < 17592186044416 then count0 k st ring (wrap64 (i + 1)) (z ++ [i]) (o ++ [mn (countNext st ring i) (wrap64 (st - 1))]) else none) else none) else some (z, o)
theorem count0_mono : ∀ k, ∀ st ring i z o, LeO (count0 k st ring i z o) (count0 (k + 1) st ring i z o)
  | 0 => fun _ _ _ _ _ r h => by simp [count0] at h
  | k + 1 => by
    have ih := count0_mono k
    intro st ring i z o
    unfold count0
    repeat' first
      | exact ih _ _ _ _ _
      | exact LeO.refl _
      | exact LeO.none _
      | refine LeO.ite ?_ ?_
def countF (k : Nat) (st : Int) (ring : Bool) (l : List Int) : Option (List Int × List Int × List Int) := (count0 k st ring 0 [] []).bind fun p => some (p.1, p.2, l)
theorem count_mono : ∀ st ring l k, LeO (countF k st ring l) (countF (k + 1) st ring l) := fun st ring l k => LeO.bind (count0_mono k st ring 0 [] []) (fun _ => LeO.refl _)

/-- The state: the machine that is made (its box holds u0 u1; its rows are v0 v1), and the box of what is returned. -/
structure L4 (w W : World) (g gr : Nat) (u0 u1 y v0 v1 : Value) (z o : List Int) : Prop where
  r0 : Kd.R (Kd.int .i64) 3 W w.heap.size (fun k => some k = v0.ownBlock) v0 z
  r1 : Kd.R (Kd.int .i64) 3 W w.heap.size (fun k => some k = v1.ownBlock) v1 o
  n01 : ∀ k, some k = v0.ownBlock → ¬ some k = v1.ownBlock
  bx : W.heap[g]? = some (.cells #[u0, u1, y] 25 (0, 0))
  br : W.heap[gr]? = some (.cells #[.slice none 0 0, .slice none 0 0, .slice none 0 0] 25 (0, 0))
  hB : Below w.heap.size w W
  gg : w.heap.size ≤ g
  gs : w.heap.size ≤ gr
  ne : gr ≠ g

section
variable {w W W' : World} {g gr : Nat} {u0 u1 y v0 v1 v : Value} {z o xs : List Int}
theorem L4.drewN (h : L4 w W g gr u0 u1 y v0 v1 z o) (n : Nat) : L4 w (W.drewN n) g gr u0 u1 y v0 v1 z o := ⟨Kd.R_drewN h.r0 n, Kd.R_drewN h.r1 n, h.n01, h.bx, h.br, pw_below_drewN h.hB n, h.gg, h.gs, h.ne⟩
theorem L4.drew (h : L4 w W g gr u0 u1 y v0 v1 z o) : L4 w W.drew g gr u0 u1 y v0 v1 z o := ⟨Kd.R_drew h.r0, Kd.R_drew h.r1, h.n01, h.bx, h.br, below_drew h.hB, h.gg, h.gs, h.ne⟩
theorem L4.alloc (h : L4 w W g gr u0 u1 y v0 v1 z o) (ob : Obj) : L4 w (W.alloc ob) g gr u0 u1 y v0 v1 z o :=
  ⟨Kd.R_alloc h.r0 ob, Kd.R_alloc h.r1 ob, h.n01, blk_alloc h.bx ob, blk_alloc h.br ob, below_alloc h.hB ob, h.gg, h.gs, h.ne⟩
theorem own_far {g : Nat} {v : Value} (h : some g ≠ v.ownBlock) : ∀ k, some k = v.ownBlock → k ≠ g := fun k hk e => h (by rw [← e]; exact hk)
/-- A row grows. -/
theorem L4.app0 (h : L4 w W g gr u0 u1 y v0 v1 z o) (ho : Kd.R (Kd.int .i64) 3 W' w.heap.size (fun k => ¬ some k = v1.ownBlock) v xs) (hg : W.grownBy W' v0.ownBlock) (hb : Below w.heap.size w W') : L4 w W' g gr u0 u1 y v v1 xs o :=
  ⟨Kd.R_tight rfl ho, Kd.R_step h.r1 (fun k hk hl => hg.block k hl (fun e => h.n01 k e hk)), fun k hk => ho.1 k hk.symm, blk_grown h.bx hg (Kd.R_ne h.r0 h.bx (by decide)), blk_grown h.br hg (Kd.R_ne h.r0 h.br (by decide)), hb, h.gg, h.gs, h.ne⟩
theorem L4.app1 (h : L4 w W g gr u0 u1 y v0 v1 z o) (ho : Kd.R (Kd.int .i64) 3 W' w.heap.size (fun k => ¬ some k = v0.ownBlock) v xs) (hg : W.grownBy W' v1.ownBlock) (hb : Below w.heap.size w W') : L4 w W' g gr u0 u1 y v0 v z xs :=
  ⟨Kd.R_step h.r0 (fun k hk hl => hg.block k hl (fun e => h.n01 k hk e)), Kd.R_tight rfl ho, fun k hk e => ho.1 k e.symm hk, blk_grown h.bx hg (Kd.R_ne h.r1 h.bx (by decide)), blk_grown h.br hg (Kd.R_ne h.r1 h.br (by decide)), hb, h.gg, h.gs, h.ne⟩
theorem L4.own0 (h : L4 w W g gr u0 u1 y v0 v1 z o) : Kd.R (Kd.int .i64) 3 W w.heap.size (fun k => ¬ some k = v1.ownBlock) v0 z := Kd.R_mono h.r0 h.n01
theorem L4.own1 (h : L4 w W g gr u0 u1 y v0 v1 z o) : Kd.R (Kd.int .i64) 3 W w.heap.size (fun k => ¬ some k = v0.ownBlock) v1 o := Kd.R_mono h.r1 (fun k hk e => h.n01 k e hk)
theorem L4.free0 (h : L4 w W g gr u0 u1 y v0 v1 z o) (k : Nat) (hk : W.heap.size ≤ k) : ¬ some k = v1.ownBlock := fun e => by have := Kd.R_lt h.r1 k e.symm; omega
theorem L4.free1 (h : L4 w W g gr u0 u1 y v0 v1 z o) (k : Nat) (hk : W.heap.size ≤ k) : ¬ some k = v0.ownBlock := fun e => by have := Kd.R_lt h.r0 k e.symm; omega
/-- .. and is put into the box. -/
theorem L4.put0 (h : L4 w W g gr u0 u1 y v0 v1 z o) : L4 w (W.setCell ⟨g, 0, none⟩ v0) g gr v0 u1 y v0 v1 z o :=
  ⟨Kd.R_far h.r0 (own_far (Kd.R_ne h.r0 h.bx (by decide))) _, Kd.R_far h.r1 (own_far (Kd.R_ne h.r1 h.bx (by decide))) _, h.n01, blk_put h.bx 0 _ rfl, blk_far h.br h.ne _, below_set h.hB h.gg, h.gg, h.gs, h.ne⟩
theorem L4.put1 (h : L4 w W g gr u0 u1 y v0 v1 z o) : L4 w (W.setCell ⟨g, 1, none⟩ v1) g gr u0 v1 y v0 v1 z o :=
  ⟨Kd.R_far h.r0 (own_far (Kd.R_ne h.r0 h.bx (by decide))) _, Kd.R_far h.r1 (own_far (Kd.R_ne h.r1 h.bx (by decide))) _, h.n01, blk_put h.bx 1 _ rfl, blk_far h.br h.ne _, below_set h.hB h.gg, h.gg, h.gs, h.ne⟩
/-- At the end. -/
theorem L4.last (h : L4 w W g gr u0 u1 y v0 v1 z o) (a b c : Value) : Kd.R (Kd.int .i64) 3 (((W.setCell ⟨gr, 0, none⟩ a).setCell ⟨gr, 1, none⟩ b).setCell ⟨gr, 2, none⟩ c) w.heap.size (fun k => some k = v0.ownBlock) v0 z ∧ Kd.R (Kd.int .i64) 3 (((W.setCell ⟨gr, 0, none⟩ a).setCell ⟨gr, 1, none⟩ b).setCell ⟨gr, 2, none⟩ c) w.heap.size (fun k => some k = v1.ownBlock) v1 o ∧ Below w.heap.size w (((W.setCell ⟨gr, 0, none⟩ a).setCell ⟨gr, 1, none⟩ b).setCell ⟨gr, 2, none⟩ c) :=
  ⟨Kd.R_far (p := ⟨gr, 2, none⟩) (Kd.R_far (p := ⟨gr, 1, none⟩) (Kd.R_far (p := ⟨gr, 0, none⟩) h.r0 (own_far (Kd.R_ne h.r0 h.br (by decide))) _) (own_far (Kd.R_ne h.r0 h.br (by decide))) _) (own_far (Kd.R_ne h.r0 h.br (by decide))) _,
    Kd.R_far (p := ⟨gr, 2, none⟩) (Kd.R_far (p := ⟨gr, 1, none⟩) (Kd.R_far (p := ⟨gr, 0, none⟩) h.r1 (own_far (Kd.R_ne h.r1 h.br (by decide))) _) (own_far (Kd.R_ne h.r1 h.br (by decide))) _) (own_far (Kd.R_ne h.r1 h.br (by decide))) _,
    below_set (below_set (below_set h.hB h.gs) h.gs) h.gs⟩
theorem L4.lastBox (h : L4 w W g gr u0 u1 y v0 v1 z o) (a b c : Value) : (((W.setCell ⟨gr, 0, none⟩ a).setCell ⟨gr, 1, none⟩ b).setCell ⟨gr, 2, none⟩ c).heap[gr]? = some (.cells #[a, b, c] 25 (0, 0)) :=
  blk_put (cs := #[a, b, .slice none 0 0]) (blk_put (cs := #[a, .slice none 0 0, .slice none 0 0]) (blk_put (cs := #[.slice none 0 0, .slice none 0 0, .slice none 0 0]) h.br 0 _ rfl) 1 _ rfl) 2 _ rfl
end

set_option maxHeartbeats 8000000 in
set_option maxRecDepth 100000 in
theorem count_walk (k : Nat) (a0 : Int) (a1 : Bool) (A2 : Option Addr) (c2 : Nat) (n : Nat) (r0 r1 : List Int) (w : World) (h : count0 k a0 a1 0 [] [] = some (r0, r1)) :
    Calls Tryd.prog 37 #[.int .i64 a0, .bool a1, .slice A2 n c2] w fun e w' => ∃ v0_ v1_ : Value, e = .returned (.agg #[v0_, v1_, .slice A2 n c2]) ∧
      Kd.R (Kd.int .i64) 3 w' w.heap.size (fun k => some k = v0_.ownBlock) v0_ r0 ∧ Kd.R (Kd.int .i64) 3 w' w.heap.size (fun k => some k = v1_.ownBlock) v1_ r1 ∧ (∀ k, some k = v0_.ownBlock → ¬ some k = v1_.ownBlock) ∧ Below w.heap.size w w' := by
  have H' := Aside0.mk h; clear h
  go_enter Tryd.func37, Tryd.ntmps37
  go_wp2_with (first | ((with_reducible refine gate_dst (N := 6) rfl ?_); refine box_event ?hg (N := 6) ?hd (cs := #[.slice none 0 0, .slice none 0 0, .slice none 0 0]) (t := 25) ?hr ?_; (case hd => rfl); (case hg => rfl); (case hr => first | (go_simp; done) | (go_simp; rfl)); intro gr hgr w5 hbox hb; have BR := Aside0.mk hbox; have HB := Aside0.mk hb; have GR := Aside0.mk hgr; clear hbox hb hgr) | ((with_reducible refine gate_dst (N := 7) rfl ?_); refine box_event ?hg (N := 7) ?hd (cs := #[.slice none 0 0, .slice none 0 0, .slice none 0 0]) (t := 25) ?hr ?_; (case hd => rfl); (case hg => rfl); (case hr => first | (go_simp; done) | (go_simp; rfl)); intro g hg w6 hbox hb; have BX := Aside0.mk hbox; have HC := Aside0.mk hb; have GX := Aside0.mk hg; have cz0_ : w6.cell? ⟨g, 0, none⟩ = some (.slice none 0 0) := (blk_cell hbox 0).trans rfl; have cz1_ : w6.cell? ⟨g, 1, none⟩ = some (.slice none 0 0) := (blk_cell hbox 1).trans rfl; have cz2_ : w6.cell? ⟨g, 2, none⟩ = some (.slice none 0 0) := (blk_cell hbox 2).trans rfl; have fz0_ := blk_frozen hbox 0; have fz1_ := blk_frozen hbox 1; have fz2_ := blk_frozen hbox 2; clear hbox hb hg))
  have L0 : Aside0 (L4 w ((((w6).setCell ⟨g, 0, none⟩ (.slice none 0 0)).setCell ⟨g, 1, none⟩ (.slice none 0 0)).setCell ⟨g, 2, none⟩ (.slice A2 n c2)) g gr (.slice none 0 0) (.slice none 0 0) (.slice A2 n c2) (.slice none 0 0) (.slice none 0 0) [] []) := by
    have hne : gr ≠ g := by have := blk_lt BR.out; have := GX.out; omega
    have h1 : w.heap.size ≤ gr := by have := GR.out; omega
    have h2 : w.heap.size ≤ g := by have := below_size HB.out; have := GX.out; omega
    exact ⟨⟨Kd.R_nil _ _ _ _ _, Kd.R_nil _ _ _ _ _, fun k hk => by simp [Value.ownBlock] at hk,
      blk_put (cs := #[.slice none 0 0, .slice none 0 0, .slice none 0 0]) (blk_put (cs := #[.slice none 0 0, .slice none 0 0, .slice none 0 0]) (blk_put (cs := #[.slice none 0 0, .slice none 0 0, .slice none 0 0]) BX.out 0 _ rfl) 1 _ rfl) 2 _ rfl,
      blk_far (blk_far (blk_far (blk_below BR.out HC.out) hne _) hne _) hne _, below_set (below_set (below_set (below_step HB.out HC.out) h2) h2) h2, h2, h1, hne⟩⟩
  clear BR HB GR BX HC GX cz0_ cz1_ cz2_ fz0_ fz1_ fz2_
  go_loopg [8] k (fun kq v8 w' => ∃ (i : Int) (z o : List Int) (v0 v1 : Value), v8 = .int .i64 i ∧ Aside0 (count0 kq a0 a1 i z o = some (r0, r1)) ∧ Aside0 (kq ≤ k) ∧ Aside0 (L4 w w' g gr v0 v1 (.slice A2 n c2) v0 v1 z o))
  case atStart => exact ⟨0, [], [], _, _, rfl, H', ⟨Nat.le_refl _⟩, L0⟩
  case round =>
    clear H' L0
    obtain ⟨i, z, o, v0, v1, rfl, HA, HK1, L⟩ := hrel
    cases gk with
    | zero => exact absurd HA.out (by simp [count0])
    | succ k1 =>
      have H := HA.out; clear HA
      simp only [count0] at H
      by_cases ci : i < a0
      · rw [if_pos ci] at H
        have cib : decide (i < a0) = true := decide_eq_true ci; clear ci
        by_cases cz : z.length < 17592186044416
        · rw [if_pos cz] at H
          have LZ := Aside0.mk cz; clear cz
          by_cases co : o.length < 17592186044416
          · rw [if_pos co] at H
            have LO := Aside0.mk co; clear co
            have cx0 : wr.cell? ⟨g, 0, none⟩ = some v0 := (blk_cell L.out.bx 0).trans rfl
            have cx1 : wr.cell? ⟨g, 1, none⟩ = some v1 := (blk_cell L.out.bx 1).trans rfl
            have ff0 := blk_frozen L.out.bx 0
            have ff1 := blk_frozen L.out.bx 1
            by_cases cn : wrap64 (i + 1) = a0
            · have cnb : (wrap64 (i + 1) == a0) = true := beq_iff_eq.mpr cn
              cases a1 with
              | true =>
                have hc : countNext a0 true i = 0 := by unfold countNext; rw [if_pos cn, if_pos rfl]
                clear cn
                rw [hc] at H; clear hc
                obtain ⟨j, hj⟩ : ∃ j : Int, mn (0) (wrap64 (a0 - 1)) = j := ⟨_, rfl⟩
                rw [hj] at H
                have hj_ : (if (wrap64 (a0 - 1)) < (0) then (wrap64 (a0 - 1)) else (0)) = j := hj
                clear hj; obtain ⟨yz, hyz⟩ : ∃ y, y = z ++ [i] := ⟨_, rfl⟩
                obtain ⟨yo, hyo⟩ : ∃ y, y = o ++ [j] := ⟨_, rfl⟩
                rw [← hyz, ← hyo] at H
                have NZ := Aside0.mk hyz; have NO := Aside0.mk hyo; clear hyz hyo; have H' := Aside0.mk H; clear H
                go_wp2_with (first | ((with_reducible refine gate_builtin (b := .append) (xs := #[.tmp 18, .tmp 20]) rfl ?_); at_builtin; refine Kd.R_append (Kd.int .i64) (w0 := w) w.heap.size rfl (.tmp 18) (.tmp 20) 23 3 (.int .i64 0) 8 rfl Tryd.underlying23 info3 rfl (by decide) (by omega) v0 z i [.int .i64 i] (fun k => ¬ some k = v1.ownBlock) (fun _ => False) rfl (by first | rfl | (go_simp; done) | (go_simp; rfl)) ?aP (fun _ hk => hk.elim) ?aF ?aO ?aB ?aS ?aL ?_; (case aP => exact rfl); (case aB => exact L4.hB (by repeat (first | (with_reducible first | exact L.out | apply L4.alloc | apply L4.drewN | apply L4.drew) | exact L.out))); (case aF => exact L4.free0 (by repeat (first | (with_reducible first | exact L.out | apply L4.alloc | apply L4.drewN | apply L4.drew) | exact L.out))); (case aO => exact L4.own0 (by repeat (first | (with_reducible first | exact L.out | apply L4.alloc | apply L4.drewN | apply L4.drew) | exact L.out))); (case aS => exact below_size (L4.hB (by repeat (first | (with_reducible first | exact L.out | apply L4.alloc | apply L4.drewN | apply L4.drew) | exact L.out)))); (case aL => have := LZ.out; omega); intro v397 w18 ho hb hg hat; rw [← NZ.out] at ho; have L1 := Aside0.mk (L4.app0 (by repeat (first | (with_reducible first | exact L.out | apply L4.alloc | apply L4.drewN | apply L4.drew) | exact L.out)) ho hg hb); clear L hg hat hb; obtain ⟨Ao, co, eo⟩ := Kd.R_slice ho; subst eo; clear ho; have hz0 : w18.cell? ⟨g, 0, none⟩ = some v0 := (blk_cell L1.out.bx 0).trans rfl; have hz1 : w18.cell? ⟨g, 1, none⟩ = some v1 := (blk_cell L1.out.bx 1).trans rfl; have hf0 := blk_frozen L1.out.bx 0; have hf1 := blk_frozen L1.out.bx 1; have L2 := Aside0.mk L1.out.put0; clear L1) | ((with_reducible refine gate_builtin (b := .append) (xs := #[.tmp 32, .tmp 37]) rfl ?_); at_builtin; refine Kd.R_append (Kd.int .i64) (w0 := w) w.heap.size rfl (.tmp 32) (.tmp 37) 23 3 (.int .i64 0) 8 rfl Tryd.underlying23 info3 rfl (by decide) (by omega) v1 o j [.int .i64 j] (fun k => ¬ some k = Value.ownBlock (.slice Ao yz.length co)) (fun _ => False) rfl (by first | rfl | (go_simp; done) | (go_simp; rfl)) ?aP (fun _ hk => hk.elim) ?aF ?aO ?aB ?aS ?aL ?_; (case aP => exact rfl); (case aB => exact L4.hB (by repeat (first | (with_reducible first | exact L2.out | apply L4.alloc | apply L4.drewN | apply L4.drew) | exact L2.out))); (case aF => exact L4.free1 (by repeat (first | (with_reducible first | exact L2.out | apply L4.alloc | apply L4.drewN | apply L4.drew) | exact L2.out))); (case aO => exact L4.own1 (by repeat (first | (with_reducible first | exact L2.out | apply L4.alloc | apply L4.drewN | apply L4.drew) | exact L2.out))); (case aS => exact below_size (L4.hB (by repeat (first | (with_reducible first | exact L2.out | apply L4.alloc | apply L4.drewN | apply L4.drew) | exact L2.out)))); (case aL => have := LO.out; omega); intro v398 w19 ho hb hg hat; rw [← NO.out] at ho; have L3 := Aside0.mk (L4.app1 (by repeat (first | (with_reducible first | exact L2.out | apply L4.alloc | apply L4.drewN | apply L4.drew) | exact L2.out)) ho hg hb); clear L2 hg hat hb; obtain ⟨Bo, do_, eo⟩ := Kd.R_slice ho; subst eo; clear ho; have hy0 : w19.cell? ⟨g, 0, none⟩ = some (.slice Ao yz.length co) := (blk_cell L3.out.bx 0).trans rfl; have hy1 : w19.cell? ⟨g, 1, none⟩ = some v1 := (blk_cell L3.out.bx 1).trans rfl; have hh0 := blk_frozen L3.out.bx 0; have hh1 := blk_frozen L3.out.bx 1; have L5 := Aside0.mk L3.out.put1; clear L3))
                go_roundg k1
                case measure => have := HK1.out; omega
                case rel => exact ⟨wrap64 (i + 1), _, _, _, _, rfl, H', ⟨by have := HK1.out; omega⟩, L5⟩
              | false =>
                have hc : countNext a0 false i = wrap64 (i + 1) := by unfold countNext; rw [if_pos cn, if_neg (by decide)]
                clear cn
                rw [hc] at H; clear hc
                obtain ⟨j, hj⟩ : ∃ j : Int, mn (wrap64 (i + 1)) (wrap64 (a0 - 1)) = j := ⟨_, rfl⟩
                rw [hj] at H
                have hj_ : (if (wrap64 (a0 - 1)) < (wrap64 (i + 1)) then (wrap64 (a0 - 1)) else (wrap64 (i + 1))) = j := hj
                clear hj; obtain ⟨yz, hyz⟩ : ∃ y, y = z ++ [i] := ⟨_, rfl⟩
                obtain ⟨yo, hyo⟩ : ∃ y, y = o ++ [j] := ⟨_, rfl⟩
                rw [← hyz, ← hyo] at H
                have NZ := Aside0.mk hyz; have NO := Aside0.mk hyo; clear hyz hyo; have H' := Aside0.mk H; clear H
                go_wp2_with (first | ((with_reducible refine gate_builtin (b := .append) (xs := #[.tmp 18, .tmp 20]) rfl ?_); at_builtin; refine Kd.R_append (Kd.int .i64) (w0 := w) w.heap.size rfl (.tmp 18) (.tmp 20) 23 3 (.int .i64 0) 8 rfl Tryd.underlying23 info3 rfl (by decide) (by omega) v0 z i [.int .i64 i] (fun k => ¬ some k = v1.ownBlock) (fun _ => False) rfl (by first | rfl | (go_simp; done) | (go_simp; rfl)) ?aP (fun _ hk => hk.elim) ?aF ?aO ?aB ?aS ?aL ?_; (case aP => exact rfl); (case aB => exact L4.hB (by repeat (first | (with_reducible first | exact L.out | apply L4.alloc | apply L4.drewN | apply L4.drew) | exact L.out))); (case aF => exact L4.free0 (by repeat (first | (with_reducible first | exact L.out | apply L4.alloc | apply L4.drewN | apply L4.drew) | exact L.out))); (case aO => exact L4.own0 (by repeat (first | (with_reducible first | exact L.out | apply L4.alloc | apply L4.drewN | apply L4.drew) | exact L.out))); (case aS => exact below_size (L4.hB (by repeat (first | (with_reducible first | exact L.out | apply L4.alloc | apply L4.drewN | apply L4.drew) | exact L.out)))); (case aL => have := LZ.out; omega); intro v397 w18 ho hb hg hat; rw [← NZ.out] at ho; have L1 := Aside0.mk (L4.app0 (by repeat (first | (with_reducible first | exact L.out | apply L4.alloc | apply L4.drewN | apply L4.drew) | exact L.out)) ho hg hb); clear L hg hat hb; obtain ⟨Ao, co, eo⟩ := Kd.R_slice ho; subst eo; clear ho; have hz0 : w18.cell? ⟨g, 0, none⟩ = some v0 := (blk_cell L1.out.bx 0).trans rfl; have hz1 : w18.cell? ⟨g, 1, none⟩ = some v1 := (blk_cell L1.out.bx 1).trans rfl; have hf0 := blk_frozen L1.out.bx 0; have hf1 := blk_frozen L1.out.bx 1; have L2 := Aside0.mk L1.out.put0; clear L1) | ((with_reducible refine gate_builtin (b := .append) (xs := #[.tmp 32, .tmp 37]) rfl ?_); at_builtin; refine Kd.R_append (Kd.int .i64) (w0 := w) w.heap.size rfl (.tmp 32) (.tmp 37) 23 3 (.int .i64 0) 8 rfl Tryd.underlying23 info3 rfl (by decide) (by omega) v1 o j [.int .i64 j] (fun k => ¬ some k = Value.ownBlock (.slice Ao yz.length co)) (fun _ => False) rfl (by first | rfl | (go_simp; done) | (go_simp; rfl)) ?aP (fun _ hk => hk.elim) ?aF ?aO ?aB ?aS ?aL ?_; (case aP => exact rfl); (case aB => exact L4.hB (by repeat (first | (with_reducible first | exact L2.out | apply L4.alloc | apply L4.drewN | apply L4.drew) | exact L2.out))); (case aF => exact L4.free1 (by repeat (first | (with_reducible first | exact L2.out | apply L4.alloc | apply L4.drewN | apply L4.drew) | exact L2.out))); (case aO => exact L4.own1 (by repeat (first | (with_reducible first | exact L2.out | apply L4.alloc | apply L4.drewN | apply L4.drew) | exact L2.out))); (case aS => exact below_size (L4.hB (by repeat (first | (with_reducible first | exact L2.out | apply L4.alloc | apply L4.drewN | apply L4.drew) | exact L2.out)))); (case aL => have := LO.out; omega); intro v398 w19 ho hb hg hat; rw [← NO.out] at ho; have L3 := Aside0.mk (L4.app1 (by repeat (first | (with_reducible first | exact L2.out | apply L4.alloc | apply L4.drewN | apply L4.drew) | exact L2.out)) ho hg hb); clear L2 hg hat hb; obtain ⟨Bo, do_, eo⟩ := Kd.R_slice ho; subst eo; clear ho; have hy0 : w19.cell? ⟨g, 0, none⟩ = some (.slice Ao yz.length co) := (blk_cell L3.out.bx 0).trans rfl; have hy1 : w19.cell? ⟨g, 1, none⟩ = some v1 := (blk_cell L3.out.bx 1).trans rfl; have hh0 := blk_frozen L3.out.bx 0; have hh1 := blk_frozen L3.out.bx 1; have L5 := Aside0.mk L3.out.put1; clear L3))
                go_roundg k1
                case measure => have := HK1.out; omega
                case rel => exact ⟨wrap64 (i + 1), _, _, _, _, rfl, H', ⟨by have := HK1.out; omega⟩, L5⟩
            · have cnb : (wrap64 (i + 1) == a0) = false := beq_eq_false_iff_ne.mpr cn
              have hc : countNext a0 a1 i = wrap64 (i + 1) := by unfold countNext; rw [if_neg cn]
              clear cn
              rw [hc] at H; clear hc
              obtain ⟨j, hj⟩ : ∃ j : Int, mn (wrap64 (i + 1)) (wrap64 (a0 - 1)) = j := ⟨_, rfl⟩
              rw [hj] at H
              have hj_ : (if (wrap64 (a0 - 1)) < (wrap64 (i + 1)) then (wrap64 (a0 - 1)) else (wrap64 (i + 1))) = j := hj
              clear hj; obtain ⟨yz, hyz⟩ : ∃ y, y = z ++ [i] := ⟨_, rfl⟩
              obtain ⟨yo, hyo⟩ : ∃ y, y = o ++ [j] := ⟨_, rfl⟩
              rw [← hyz, ← hyo] at H
              have NZ := Aside0.mk hyz; have NO := Aside0.mk hyo; clear hyz hyo; have H' := Aside0.mk H; clear H
              go_wp2_with (first | ((with_reducible refine gate_builtin (b := .append) (xs := #[.tmp 18, .tmp 20]) rfl ?_); at_builtin; refine Kd.R_append (Kd.int .i64) (w0 := w) w.heap.size rfl (.tmp 18) (.tmp 20) 23 3 (.int .i64 0) 8 rfl Tryd.underlying23 info3 rfl (by decide) (by omega) v0 z i [.int .i64 i] (fun k => ¬ some k = v1.ownBlock) (fun _ => False) rfl (by first | rfl | (go_simp; done) | (go_simp; rfl)) ?aP (fun _ hk => hk.elim) ?aF ?aO ?aB ?aS ?aL ?_; (case aP => exact rfl); (case aB => exact L4.hB (by repeat (first | (with_reducible first | exact L.out | apply L4.alloc | apply L4.drewN | apply L4.drew) | exact L.out))); (case aF => exact L4.free0 (by repeat (first | (with_reducible first | exact L.out | apply L4.alloc | apply L4.drewN | apply L4.drew) | exact L.out))); (case aO => exact L4.own0 (by repeat (first | (with_reducible first | exact L.out | apply L4.alloc | apply L4.drewN | apply L4.drew) | exact L.out))); (case aS => exact below_size (L4.hB (by repeat (first | (with_reducible first | exact L.out | apply L4.alloc | apply L4.drewN | apply L4.drew) | exact L.out)))); (case aL => have := LZ.out; omega); intro v397 w18 ho hb hg hat; rw [← NZ.out] at ho; have L1 := Aside0.mk (L4.app0 (by repeat (first | (with_reducible first | exact L.out | apply L4.alloc | apply L4.drewN | apply L4.drew) | exact L.out)) ho hg hb); clear L hg hat hb; obtain ⟨Ao, co, eo⟩ := Kd.R_slice ho; subst eo; clear ho; have hz0 : w18.cell? ⟨g, 0, none⟩ = some v0 := (blk_cell L1.out.bx 0).trans rfl; have hz1 : w18.cell? ⟨g, 1, none⟩ = some v1 := (blk_cell L1.out.bx 1).trans rfl; have hf0 := blk_frozen L1.out.bx 0; have hf1 := blk_frozen L1.out.bx 1; have L2 := Aside0.mk L1.out.put0; clear L1) | ((with_reducible refine gate_builtin (b := .append) (xs := #[.tmp 32, .tmp 37]) rfl ?_); at_builtin; refine Kd.R_append (Kd.int .i64) (w0 := w) w.heap.size rfl (.tmp 32) (.tmp 37) 23 3 (.int .i64 0) 8 rfl Tryd.underlying23 info3 rfl (by decide) (by omega) v1 o j [.int .i64 j] (fun k => ¬ some k = Value.ownBlock (.slice Ao yz.length co)) (fun _ => False) rfl (by first | rfl | (go_simp; done) | (go_simp; rfl)) ?aP (fun _ hk => hk.elim) ?aF ?aO ?aB ?aS ?aL ?_; (case aP => exact rfl); (case aB => exact L4.hB (by repeat (first | (with_reducible first | exact L2.out | apply L4.alloc | apply L4.drewN | apply L4.drew) | exact L2.out))); (case aF => exact L4.free1 (by repeat (first | (with_reducible first | exact L2.out | apply L4.alloc | apply L4.drewN | apply L4.drew) | exact L2.out))); (case aO => exact L4.own1 (by repeat (first | (with_reducible first | exact L2.out | apply L4.alloc | apply L4.drewN | apply L4.drew) | exact L2.out))); (case aS => exact below_size (L4.hB (by repeat (first | (with_reducible first | exact L2.out | apply L4.alloc | apply L4.drewN | apply L4.drew) | exact L2.out)))); (case aL => have := LO.out; omega); intro v398 w19 ho hb hg hat; rw [← NO.out] at ho; have L3 := Aside0.mk (L4.app1 (by repeat (first | (with_reducible first | exact L2.out | apply L4.alloc | apply L4.drewN | apply L4.drew) | exact L2.out)) ho hg hb); clear L2 hg hat hb; obtain ⟨Bo, do_, eo⟩ := Kd.R_slice ho; subst eo; clear ho; have hy0 : w19.cell? ⟨g, 0, none⟩ = some (.slice Ao yz.length co) := (blk_cell L3.out.bx 0).trans rfl; have hy1 : w19.cell? ⟨g, 1, none⟩ = some v1 := (blk_cell L3.out.bx 1).trans rfl; have hh0 := blk_frozen L3.out.bx 0; have hh1 := blk_frozen L3.out.bx 1; have L5 := Aside0.mk L3.out.put1; clear L3))
              go_roundg k1
              case measure => have := HK1.out; omega
              case rel => exact ⟨wrap64 (i + 1), _, _, _, _, rfl, H', ⟨by have := HK1.out; omega⟩, L5⟩
          · rw [if_neg co] at H
            exact absurd H (by simp)
        · rw [if_neg cz] at H
          exact absurd H (by simp)
      · rw [if_neg ci] at H
        have cib : decide (i < a0) = false := decide_eq_false ci; clear ci
        simp only [Option.some.injEq, Prod.mk.injEq] at H
        obtain ⟨rfl, rfl⟩ := H
        have cx0 : wr.cell? ⟨g, 0, none⟩ = some v0 := (blk_cell L.out.bx 0).trans rfl
        have cx1 : wr.cell? ⟨g, 1, none⟩ = some v1 := (blk_cell L.out.bx 1).trans rfl
        have cx2 : wr.cell? ⟨g, 2, none⟩ = some (.slice A2 n c2) := (blk_cell L.out.bx 2).trans rfl
        have cr0 : wr.cell? ⟨gr, 0, none⟩ = some (.slice none 0 0) := (blk_cell L.out.br 0).trans rfl
        have cr1 : wr.cell? ⟨gr, 1, none⟩ = some (.slice none 0 0) := (blk_cell L.out.br 1).trans rfl
        have cr2 : wr.cell? ⟨gr, 2, none⟩ = some (.slice none 0 0) := (blk_cell L.out.br 2).trans rfl
        have fr0 := blk_frozen L.out.br 0
        have fr1 := blk_frozen L.out.br 1
        have fr2 := blk_frozen L.out.br 2
        have ff0 := blk_frozen L.out.bx 0
        have ff1 := blk_frozen L.out.bx 1
        have ff2 := blk_frozen L.out.bx 2
        have hne := L.out.ne
        have hne' := L.out.ne.symm
        obtain ⟨Ao, co, eo⟩ := Kd.R_slice L.out.r0
        subst eo
        obtain ⟨Bo, do_, eo⟩ := Kd.R_slice L.out.r1
        subst eo
        go_wp2_with (fail)

        refine bodyPost_ret (results_cell_row rfl _ _ gr 25 #[.slice Ao z.length co, .slice Bo o.length do_, .slice A2 n c2] (0, 0) _ rfl (L.out.lastBox _ _ _) Tryd.underlying25 rfl (by kernel_rfl)) rfl ?_
        exact ⟨_, _, rfl, (L.out.last _ _ _).1, (L.out.last _ _ _).2.1, L.out.n01, (L.out.last _ _ _).2.2⟩
theorem count_calls (k : Nat) (a0 : Int) (a1 : Bool) (A2 : Option Addr) (c2 : Nat) (l2 : List Int) (r0 r1 r2 : List Int) (w : World) (base : Nat) (ok : Nat → Prop) (hr : Kd.R (Kd.int .i64) 3 w base ok (.slice A2 l2.length c2) l2) (h : countF k a0 a1 l2 = some (r0, r1, r2)) :
    Calls Tryd.prog 37 #[.int .i64 a0, .bool a1, .slice A2 l2.length c2] w fun e w' => ∃ v0_ v1_ v2_ : Value, e = .returned (.agg #[v0_, v1_, v2_]) ∧ Kd.R (Kd.int .i64) 3 w' w.heap.size (fun k_ => some k_ ≠ (v1_ : Value).ownBlock ∧ some k_ ≠ (v2_ : Value).ownBlock) v0_ r0 ∧ Kd.R (Kd.int .i64) 3 w' w.heap.size (fun k_ => some k_ ≠ (v0_ : Value).ownBlock ∧ some k_ ≠ (v2_ : Value).ownBlock) v1_ r1 ∧
      Kd.R (Kd.int .i64) 3 w' base (fun k_ => some k_ ≠ (v0_ : Value).ownBlock ∧ some k_ ≠ (v1_ : Value).ownBlock) v2_ r2 ∧ Below w.heap.size w w' := by
  unfold countF at h
  obtain ⟨⟨q0, q1⟩, hq, h⟩ := Option.bind_eq_some_iff.mp h
  simp only [Option.some.injEq, Prod.mk.injEq] at h
  obtain ⟨rfl, rfl, rfl⟩ := h
  refine (count_walk k a0 a1 A2 c2 l2.length q0 q1 w hq).mono ?_
  rintro e w' ⟨v0, v1, rfl, h0, h1, hn, hb⟩
  have hy := Kd.R_tight rfl (Kd.R_below hr hb)
  have lt := Kd.R_lt hr
  have f0 := Kd.R_base h0
  have f1 := Kd.R_base h1
  have e0 : ∀ k, some k = Value.ownBlock (.slice A2 l2.length c2) → ¬ some k = v0.ownBlock := fun k hk e => by have := lt k hk.symm; have := f0 k e.symm; omega
  have e1 : ∀ k, some k = Value.ownBlock (.slice A2 l2.length c2) → ¬ some k = v1.ownBlock := fun k hk e => by have := lt k hk.symm; have := f1 k e.symm; omega
  exact ⟨v0, v1, _, rfl, Kd.R_mono h0 (fun k hk => ⟨hn k hk, fun e => e0 k e hk⟩), Kd.R_mono h1 (fun k hk => ⟨fun e => hn k e hk, fun e => e1 k e hk⟩), Kd.R_mono hy (fun k hk => ⟨e0 k hk, e1 k hk⟩), hb⟩
end Go.Proofs.YthodcgkhianecaaDoor.Man
