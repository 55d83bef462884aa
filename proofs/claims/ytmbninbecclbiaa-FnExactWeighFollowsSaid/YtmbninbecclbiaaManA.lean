/- Words printed by the print tool, the unused ones left out, merged into one text by mergew.py. -/
import Derived.Test.YtmbninbecclbiaaPAx0
import Derived.Ground.NamesProg
import Derived.Ground.Names2Prog
import Derived.Shelf.Slices.Delete
import Derived.Shelf.Slices.Turned
import Derived.Lib.OwnBridge
import Derived.Shelf.Abstract
import Derived.Test.YtmbninbecclbiaaPAx15
import Derived.Test.YtmbninbecclbiaaPAx17
import Derived.Ground.SlsfProg
import Derived.Shelf.SlGeneric
import Derived.Shelf.SlSortCmp.NoneTotal
import Derived.Test.YtmbninbecclbiaaSemBase
import Derived.Test.YtmbninbecclbiaaPAx36
import Derived.Test.YtmbninbecclbiaaPAx18
section
/- slices.Delete and slices.Min at rows of the call's own, by the library's own contracts; no condition but the rows' lengths. -/
namespace Go.Proofs
open Go.Shelf
def Ytmbninbecclbiaa.layDel_ren : Go.Shelf.Ren := ⟨fun | 23 => 87 | n => n, fun | 22 => 35 | 3 => 3 | 4 => 4 | 0 => 0 | n => n, fun | n => n⟩
theorem Ytmbninbecclbiaa.layDel : Go.Proofs.Lays2.n23 Try.prog Ytmbninbecclbiaa.layDel_ren := {
  mixed := by kernel_rfl
  f23 := Try.func87.trans (congrArg some (by kernel_rfl))
  t0 := Try.underlying0
  a0 := Try.isAgg0
  z0 := Try.sizeOf0
  v0 := Try.zeroValue0
  t3 := Try.underlying3
  a3 := Try.isAgg3
  z3 := Try.sizeOf3
  v3 := Try.zeroValue3
  t4 := Try.underlying4
  a4 := Try.isAgg4
  z4 := Try.sizeOf4
  v4 := Try.zeroValue4
  t22 := Try.underlying35
  a22 := Try.isAgg35
  z22 := Try.sizeOf35
  v22 := Try.zeroValue35
  i3 := by kernel_rfl }
def Ytmbninbecclbiaa.layMin_ren : Go.Shelf.Ren := ⟨fun | 114 => 82 | n => n, fun | 28 => 35 | 3 => 3 | 4 => 4 | 9 => 9 | 20 => 20 | 0 => 0 | n => n, fun | n => n⟩
theorem Ytmbninbecclbiaa.layMin : Go.Proofs.Lays.n114 Try.prog Ytmbninbecclbiaa.layMin_ren := {
  mixed := by kernel_rfl
  f114 := Try.func82.trans (congrArg some (by kernel_rfl))
  t0 := Try.underlying0
  a0 := Try.isAgg0
  z0 := Try.sizeOf0
  v0 := Try.zeroValue0
  t3 := Try.underlying3
  a3 := Try.isAgg3
  z3 := Try.sizeOf3
  v3 := Try.zeroValue3
  t4 := Try.underlying4
  a4 := Try.isAgg4
  z4 := Try.sizeOf4
  v4 := Try.zeroValue4
  t9 := Try.underlying9
  a9 := Try.isAgg9
  z9 := Try.sizeOf9
  v9 := Try.zeroValue9
  t20 := Try.underlying20
  a20 := Try.isAgg20
  z20 := Try.sizeOf20
  v20 := Try.zeroValue20
  t28 := Try.underlying35
  a28 := Try.isAgg35
  z28 := Try.sizeOf35
  v28 := Try.zeroValue35 }
end Go.Proofs
namespace Go.Proofs.Ytmbninbecclbiaa.Man
open Go.RowKit Go.Proofs.Ytmbninbecclbiaa.PA Go.Proofs.YtmbninbecclbiaaW.PrintWords Go.Proofs.YtmbninbecclbiaaW.PrintLast Go.Proofs.YtmbninbecclbiaaW.PrintMore
set_option linter.unusedVariables false
set_option linter.unusedSimpArgs false

theorem blk_beside {W : World} {g t : Nat} {cs : Array Value} (h : W.heap[g]? = some (.cells cs t (0, 0))) {b : Nat} (hb0 : b = W.heap.size) {w1 : World} (hb : Below W.heap.size W w1) (u0 u1 u2 : Value) : (((w1.setCell ⟨b, 0, none⟩ u0).setCell ⟨b, 1, none⟩ u1).setCell ⟨b, 2, none⟩ u2).heap[g]? = some (.cells cs t (0, 0)) := by
  have hne : g ≠ b := by have := blk_lt h; omega
  exact (Below.heap_setCell _ ⟨b, 2, none⟩ _ g hne).trans ((Below.heap_setCell _ ⟨b, 1, none⟩ _ g hne).trans ((Below.heap_setCell _ ⟨b, 0, none⟩ _ g hne).trans (blk_below h hb)))
theorem below_beside {w W : World} (h : Below w.heap.size w W) {b : Nat} (hb0 : b = W.heap.size) {w1 : World} (hb : Below W.heap.size W w1) (u0 u1 u2 : Value) : Below w.heap.size w (((w1.setCell ⟨b, 0, none⟩ u0).setCell ⟨b, 1, none⟩ u1).setCell ⟨b, 2, none⟩ u2) := by
  have hle : w.heap.size ≤ b := by have := below_size h; omega
  exact below_set (below_set (below_set (below_step h hb) hle) hle) hle
theorem below_one {W w1 : World} {b : Nat} (hb0 : b = W.heap.size) (hb : Below W.heap.size W w1) (v : Value) : Below W.heap.size W (w1.setCell ⟨b, 0, none⟩ v) := below_set hb (Nat.le_of_eq hb0.symm)
theorem take_drop_one (xs : List Int) (n : Nat) (hl : xs.length = 4) (hn : n < 4) : (xs.take n ++ xs.drop (n + 1) ++ List.replicate (n + 1 - n) (0 : Int)).length = 4 ∧ (xs.take n ++ xs.drop (n + 1) ++ List.replicate (n + 1 - n) (0 : Int)).take 3 = xs.eraseIdx n := by
  refine ⟨by simp; omega, ?_⟩
  rw [List.eraseIdx_eq_take_drop_succ, List.take_append_of_le_length (by simp; omega), List.take_of_length_le (by simp; omega)]
/-- One element is cut out of a row of four. -/
theorem deleteR (W : World) (base : Nat) (ok : Nat → Prop) (v : Value) (xs : List Int) (n : Nat) (x y : Int) (hR : Kd.R (Kd.int .i64) 3 W base ok v xs) (hl : xs.length = 4) (hn : n < 4) (hx : x = (n : Int)) (hy : y = ((n + 1 : Nat) : Int)) :
    Calls Try.prog 87 #[v, .int .i64 x, .int .i64 y] W fun e w' => ∃ g cap, e = .returned (.slice (some ⟨g, 0, none⟩) 3 cap) ∧ Kd.R (Kd.int .i64) 3 w' base ok (.slice (some ⟨g, 0, none⟩) 3 cap) (xs.eraseIdx n) ∧ (∀ w0 : World, base = w0.heap.size → Below base w0 W → Below base w0 w') ∧ ∀ k, some k ≠ v.ownBlock → w'.heap[k]? = W.heap[k]? := by
  have ho := Kd.own_of_R hR
  have h0 := hR.1
  obtain ⟨g, cap, rfl, hb, hlt, hc, hm, _, hH⟩ := Go.Lib.holds_of_ownsRow (zs := xs) ho (by
    intro e
    obtain ⟨_, _, e', _⟩ := Kd.R_form hR (by omega)
    rw [e'] at e
    cases e)
  subst hx hy
  rw [hl] at ho
  refine (show Calls Try.prog 87 _ _ _ from Any.slices_Delete_int Go.Proofs.Ytmbninbecclbiaa.layDel g 0 cap n (n + 1) xs W hH (by omega) (by have := hm; unfold maxLen at this; omega) (by omega) (by omega)).mono ?_
  rintro e w' ⟨rfl, q, rfl⟩
  have ht := take_drop_one xs n hl hn
  have h2 := Go.Lib.ownsRow_putRow (q := q) (k := 3) ho ht.1 (by omega)
  rw [ht.2] at h2
  have hl3 : (xs.eraseIdx n).length = 3 := by rw [List.length_eraseIdx, if_pos (by omega), hl]
  rw [show xs.length - (n + 1 - n) = 3 by omega]
  refine ⟨g, cap, rfl, Kd.R_of_own (by rw [hl3]; exact h2) (fun k hk => h0 k hk), fun w0 e0 hbw => by subst e0; exact Go.Lib.below_putRow hbw hb, fun k hk => ?_⟩
  have : g ≠ k := fun e => hk (by rw [e]; rfl)
  simp [Go.Sort.putRow, Go.Sort.mapBlock, Go.Sort.ahead, Array.getElem?_modify, this]
theorem cells3 {W : World} {base : Nat} {ok : Nat → Prop} {g cap : Nat} {l : List Int} (h : Kd.R (Kd.int .i64) 3 W base ok (.slice (some ⟨g, 0, none⟩) 3 cap) l) : W.cell? ⟨g, 0, none⟩ = some (.int .i64 (rd l 0)) ∧ W.cell? ⟨g, 1, none⟩ = some (.int .i64 (rd l 1)) ∧ W.cell? ⟨g, 2, none⟩ = some (.int .i64 (rd l 2)) := by
  obtain ⟨hl, _, hC⟩ := Kd.R_reads' h
  rw [← hl] at hC
  obtain ⟨a0, e0, h0⟩ := Kd.at_int hC 0 (by omega) (by omega)
  obtain ⟨a1, e1, h1⟩ := Kd.at_int hC 1 (by omega) (by omega)
  obtain ⟨a2, e2, h2⟩ := Kd.at_int hC 2 (by omega) (by omega)
  cases e0
  cases e1
  cases e2
  exact ⟨h0, h1, h2⟩
theorem ix0 (A0 A1 A2 : Option Addr) (n0 n1 n2 c0 c1 c2 : Nat) (W : World) : Sem.run Try.prog (Instr.index 75 (.agg #[.slice A0 n0 c0, .slice A1 n1 c1, .slice A2 n2 c2]) (.int .i64 0)) W = .ok (.slice A0 n0 c0) W := by kernel_rfl
theorem ix1 (A0 A1 A2 : Option Addr) (n0 n1 n2 c0 c1 c2 : Nat) (W : World) : Sem.run Try.prog (Instr.index 75 (.agg #[.slice A0 n0 c0, .slice A1 n1 c1, .slice A2 n2 c2]) (.int .i64 1)) W = .ok (.slice A1 n1 c1) W := by kernel_rfl
theorem ix2 (A0 A1 A2 : Option Addr) (n0 n1 n2 c0 c1 c2 : Nat) (W : World) : Sem.run Try.prog (Instr.index 75 (.agg #[.slice A0 n0 c0, .slice A1 n1 c1, .slice A2 n2 c2]) (.int .i64 2)) W = .ok (.slice A2 n2 c2) W := by kernel_rfl
/-- The least of a row. -/
theorem minR (W : World) (base : Nat) (ok : Nat → Prop) (v : Value) (xs : List Int) (hR : Kd.R (Kd.int .i64) 3 W base ok v xs) (hl : xs.length = 4) :
    Calls Try.prog 82 #[v] W fun e w' => e = .returned (.int .i64 (Go.Lib.minOf xs)) ∧ w' = W := by
  have ho := Kd.own_of_R hR
  obtain ⟨g, cap, rfl, hb, hlt, hc, hm, _, hH⟩ := Go.Lib.holds_of_ownsRow (zs := xs) ho (by
    intro e
    obtain ⟨_, _, e', _⟩ := Kd.R_form hR (by omega)
    rw [e'] at e
    cases e)
  have h := Any.slices_Min_int Go.Proofs.Ytmbninbecclbiaa.layMin g 0 xs.length cap xs W (by omega) (by omega) (by omega) (fun j hj => by
    have := (hH j (by simpa using hj)).1
    rw [this, getElem!_pos _ j (by simpa using hj)]
    simp [List.getD_eq_getElem?_getD, hj])
  rw [List.take_length] at h
  exact h
end Go.Proofs.Ytmbninbecclbiaa.Man

end
section
/- impl.minorOf: three rows of four, one column cut out; no condition but the rows' lengths. -/
namespace Go.Proofs.Ytmbninbecclbiaa.Man
open Go.RowKit Go.Proofs.Ytmbninbecclbiaa.PA Go.Proofs.YtmbninbecclbiaaW.PrintWords Go.Proofs.YtmbninbecclbiaaW.PrintLast Go.Proofs.YtmbninbecclbiaaW.PrintMore
set_option linter.unusedVariables false
set_option linter.unusedSimpArgs false

/-- The determinant, as it is reckoned. -/
def detW (a b c d e f g h i : Int) : Int := wrap64 ((wrap64 ((wrap64 (a * (wrap64 ((wrap64 (e * i)) - (wrap64 (f * h)))))) - (wrap64 (b * (wrap64 ((wrap64 (d * i)) - (wrap64 (f * g)))))))) + (wrap64 (c * (wrap64 ((wrap64 (d * h)) - (wrap64 (e * g)))))))
def minW (p q r : List Int) : Int := detW (rd p 0) (rd p 1) (rd p 2) (rd q 0) (rd q 1) (rd q 2) (rd r 0) (rd r 1) (rd r 2)

set_option maxHeartbeats 8000000 in
set_option maxRecDepth 100000 in
theorem minorOf (w : World) (A0 A1 A2 : Option Addr) (c0 c1 c2 : Nat) (a b c : List Int) (n : Nat) (x : Int) (hx : x = (n : Int)) (hn : n < 4) (r0 : Kd.C (Kd.int .i64) w A0 a.length a) (r1 : Kd.C (Kd.int .i64) w A1 b.length b) (r2 : Kd.C (Kd.int .i64) w A2 c.length c) (la : a.length = 4) (lb : b.length = 4) (lc : c.length = 4) :
    Calls Try.prog 81 #[.agg #[.slice A0 a.length c0, .slice A1 b.length c1, .slice A2 c.length c2], .int .i64 x] w fun e w' => e = .returned (.int .i64 (minW (a.eraseIdx n) (b.eraseIdx n) (c.eraseIdx n))) ∧ Below w.heap.size w w' := by
  have HR := Aside0.mk (show Kd.C (Kd.int .i64) w A0 a.length a ∧ Kd.C (Kd.int .i64) w A1 b.length b ∧ Kd.C (Kd.int .i64) w A2 c.length c from ⟨r0, r1, r2⟩)
  have HL := Aside0.mk (show a.length = 4 ∧ b.length = 4 ∧ c.length = 4 from ⟨la, lb, lc⟩)
  have HX := Aside0.mk (show x = (n : Int) ∧ n < 4 from ⟨hx, hn⟩)
  have HB0 := Aside0.mk (Below.refl w.heap.size w)
  have x0 : 0 ≤ x := by omega
  have x4 : x ≤ 3 := by omega
  clear r0 r1 r2 la lb lc hx hn
  go_enter Try.func81, Try.ntmps81
  go_upto_region 2 with (first | ((with_reducible refine gate_dst (N := 2) rfl ?_); refine box_event ?hg (N := 2) ?hd (cs := #[.slice A0 a.length c0, .slice A1 b.length c1, .slice A2 c.length c2]) (t := 75) ?hr ?_; (case hd => rfl); (case hg => rfl); (case hr => first | (go_simp; done) | (go_simp; rfl)); intro g2 hg2 wg2 hbox hb; have BK2 := Aside0.mk hbox; have HB1 := Aside0.mk (below_step HB0.out hb); clear hbox hb hg2) | ((with_reducible refine gate_dst (N := 5) rfl ?_); refine box_event ?hg (N := 5) ?hd (cs := #[.slice none 0 0, .slice none 0 0, .slice none 0 0]) (t := 75) ?hr ?_; (case hd => rfl); (case hg => rfl); (case hr => first | (go_simp; done) | (go_simp; rfl)); intro g5 hg5 wg5 hbox hb; have BK2b := Aside0.mk (blk_beside BK2.out hg5 hb (.slice none 0 0) (.slice none 0 0) (.slice none 0 0)); have BK5 := Aside0.mk (blk_put (cs' := #[.slice none 0 0, .slice none 0 0, .slice none 0 0]) (blk_put (cs' := #[.slice none 0 0, .slice none 0 0, .slice none 0 0]) (blk_put (cs' := #[.slice none 0 0, .slice none 0 0, .slice none 0 0]) hbox 0 (.slice none 0 0) rfl) 1 (.slice none 0 0) rfl) 2 (.slice none 0 0) rfl); have HB2 := Aside0.mk (below_beside HB1.out hg5 hb (.slice none 0 0) (.slice none 0 0) (.slice none 0 0)); have hc5_0 : wg5.cell? ⟨g5, 0, none⟩ = some (.slice none 0 0) := (blk_cell hbox 0).trans rfl; have hc5_1 : wg5.cell? ⟨g5, 1, none⟩ = some (.slice none 0 0) := (blk_cell hbox 1).trans rfl; have hc5_2 : wg5.cell? ⟨g5, 2, none⟩ = some (.slice none 0 0) := (blk_cell hbox 2).trans rfl; have hf5_0 := blk_frozen hbox 0; have hf5_1 := blk_frozen hbox 1; have hf5_2 := blk_frozen hbox 2; have N25 := Aside0.mk (show g2 ≠ g5 by have := blk_lt BK2.out; omega); have G5 := Aside0.mk (show w.heap.size ≤ g5 by have := below_size HB1.out; omega); clear hbox hb hg5))
  generalize (((wg5.setCell ⟨g5, 0, none⟩ (.slice none 0 0)).setCell ⟨g5, 1, none⟩ (.slice none 0 0)).setCell ⟨g5, 2, none⟩ (.slice none 0 0)) = W0 at BK2b BK5 HB2 ⊢
  have hc2_0 : W0.cell? ⟨g2, 0, none⟩ = some (.slice A0 a.length c0) := (blk_cell BK2b.out 0).trans rfl
  have hc2_1 : W0.cell? ⟨g2, 1, none⟩ = some (.slice A1 b.length c1) := (blk_cell BK2b.out 1).trans rfl
  have hc2_2 : W0.cell? ⟨g2, 2, none⟩ = some (.slice A2 c.length c2) := (blk_cell BK2b.out 2).trans rfl
  clear hc5_0 hc5_1 hc5_2 hf5_0 hf5_1 hf5_2 BK2 HB1 HB0
  go_wp2
  refine wp_loop_rounds 4 ?_
  clear hc2_0 hc2_1 hc2_2 BK2b
  rw [rounds_succ]
  have hi0 := ix0 A0 A1 A2 a.length b.length c.length c0 c1 c2 W0
  go_wp2_with (first | ((with_reducible refine gate_dst (N := 15) rfl ?_); refine Kd.R_lit (Kd.int .i64) _ 3 ?hg (N := 15) ?hd (xs := ([] : List Int)) (inner := []) (ok := fun _ => True) (okp := fun _ => True) ?hr ?hp (fun _ hk => hk) trivial (Below.refl _ _) (Nat.le_refl _) (by simp) ?_; (case hd => rfl); (case hg => rfl); (case hr => first | (go_simp; done) | (go_simp; rfl)); (case hp => exact (Reps.none _ _)); intro v0 wl0 ho hb hg_ hnew_; clear hg_ hnew_; have AL0 := Aside0.mk (Kd.R_base ho); have RL0 := Aside0.mk (Kd.R_lower ho (below_size HB2.out)); have HBl0 := Aside0.mk (below_step HB2.out hb); have BK5l0 := Aside0.mk (blk_below BK5.out hb); clear ho hb) | ((with_reducible refine gate_builtin (b := .append) (xs := #[.tmp 15, .tmp 16]) rfl ?_); at_builtin; refine Kd.R_append_rows (Kd.int .i64) (w0 := w) w.heap.size rfl (.tmp 15) (.tmp 16) 35 3 (.int .i64 0) 8 rfl Try.underlying35 info3 rfl (by decide) (by omega) v0 [] a A0 a.length c0 (fun _ => True) (fun _ => False) rfl rfl ?aO ?aR (fun _ _ h => h) (fun _ h => h.elim) (fun _ _ => trivial) ?aB ?aS ?aL ?_; (case aO => exact RL0.out); (case aR => exact Kd.C_below HR.out.1 HBl0.out); (case aB => exact HBl0.out); (case aS => exact below_size HBl0.out); (case aL => have := HL.out.1; simp only [List.length_nil]; omega); intro u0 wa0 ho hb hg hat; have RX0 := Aside0.mk ho; have HBa0 := Aside0.mk hb; have BK5a0 := Aside0.mk (blk_grown BK5l0.out hg (Kd.R_ne RL0.out BK5l0.out (by decide))); clear ho hb hg hat) | (go_at_call 87; (with_reducible refine (deleteR _ w.heap.size (fun _ => True) u0 ([] ++ a) n x (x + 1) RX0.out ?dl ?dn ?dx ?dy).mono ?_); (case dl => exact HL.out.1); (case dn => exact HX.out.2); (case dx => exact HX.out.1); (case dy => have := HX.out.1; omega); rintro e wd0 ⟨ga, p0, rfl, hr_, hb_, hf_⟩; have RAd0 := Aside0.mk (show Kd.R (Kd.int .i64) 3 wd0 w.heap.size (fun _ => True) (.slice (some ⟨ga, 0, none⟩) 3 p0) (a.eraseIdx n) from hr_); have HBd0 := Aside0.mk (hb_ w rfl HBa0.out); have BK5d0 := Aside0.mk ((hf_ g5 (Kd.R_ne RX0.out BK5a0.out (by decide))).trans BK5a0.out); have hs0 : wd0.cell? ⟨g5, 0, none⟩ = some (.slice none 0 0) := (blk_cell BK5d0.out 0).trans rfl; have hf0 := blk_frozen BK5d0.out 0; have BK5e0 := Aside0.mk (blk_put (cs' := #[.slice (some ⟨ga, 0, none⟩) 3 p0, .slice none 0 0, .slice none 0 0]) BK5d0.out 0 (.slice (some ⟨ga, 0, none⟩) 3 p0) rfl); have RAe0 := Aside0.mk (Kd.R_mono (Kd.R_far (p := ⟨g5, 0, none⟩) (Kd.R_types RAd0.out BK5d0.out (by decide)) (fun _ hk => hk.2) (.slice (some ⟨ga, 0, none⟩) 3 p0)) (fun _ _ => trivial)); have HBe0 := Aside0.mk (below_set (j := 0) (v := (.slice (some ⟨ga, 0, none⟩) 3 p0)) HBd0.out G5.out); clear hr_ hb_ hf_))
  generalize (wd0.setCell ⟨g5, 0, none⟩ (.slice (some ⟨ga, 0, none⟩) 3 p0)) = W1 at BK5e0 HBe0 RAe0 ⊢
  clear hi0 hs0 hf0 RL0 AL0 RX0 HBl0 HBa0 HBd0 BK5l0 BK5a0 BK5d0 RAd0 HB2 BK5
  rw [rounds_succ]
  have hi1 := ix1 A0 A1 A2 a.length b.length c.length c0 c1 c2 W1
  go_wp2_with (first | ((with_reducible refine gate_dst (N := 15) rfl ?_); refine Kd.R_lit (Kd.int .i64) _ 3 ?hg (N := 15) ?hd (xs := ([] : List Int)) (inner := []) (ok := fun _ => True) (okp := fun _ => True) ?hr ?hp (fun _ hk => hk) trivial (Below.refl _ _) (Nat.le_refl _) (by simp) ?_; (case hd => rfl); (case hg => rfl); (case hr => first | (go_simp; done) | (go_simp; rfl)); (case hp => exact (Reps.none _ _)); intro v1 wl1 ho hb hg_ hnew_; clear hg_ hnew_; have AL1 := Aside0.mk (Kd.R_base ho); have RL1 := Aside0.mk (Kd.R_lower ho (below_size HBe0.out)); have HBl1 := Aside0.mk (below_step HBe0.out hb); have BK5l1 := Aside0.mk (blk_below BK5e0.out hb); have RAl1 := Aside0.mk (Kd.R_mono (Kd.R_bound (Kd.R_below RAe0.out hb)) (fun k_ hk_ => trivial)); have RAz1 := Aside0.mk (Kd.R_elder' RAe0.out (Kd.R_base ho) hb); clear ho hb) | ((with_reducible refine gate_builtin (b := .append) (xs := #[.tmp 15, .tmp 16]) rfl ?_); at_builtin; refine Kd.R_append_rows (Kd.int .i64) (w0 := w) w.heap.size rfl (.tmp 15) (.tmp 16) 35 3 (.int .i64 0) 8 rfl Try.underlying35 info3 rfl (by decide) (by omega) v1 [] b A1 b.length c1 (fun _ => True) (fun _ => False) rfl rfl ?aO ?aR (fun _ _ h => h) (fun _ h => h.elim) (fun _ _ => trivial) ?aB ?aS ?aL ?_; (case aO => exact RL1.out); (case aR => exact Kd.C_below HR.out.2.1 HBl1.out); (case aB => exact HBl1.out); (case aS => exact below_size HBl1.out); (case aL => have := HL.out.2.1; simp only [List.length_nil]; omega); intro u1 wa1 ho hb hg hat; have RX1 := Aside0.mk ho; have HBa1 := Aside0.mk hb; have BK5a1 := Aside0.mk (blk_grown BK5l1.out hg (Kd.R_ne RL1.out BK5l1.out (by decide))); have RAa1 := Aside0.mk (Kd.R_after RAz1.out hg hat); clear ho hb hg hat) | (go_at_call 87; (with_reducible refine (deleteR _ w.heap.size (fun _ => True) u1 ([] ++ b) n x (x + 1) RX1.out ?dl ?dn ?dx ?dy).mono ?_); (case dl => exact HL.out.2.1); (case dn => exact HX.out.2); (case dx => exact HX.out.1); (case dy => have := HX.out.1; omega); rintro e wd1 ⟨gb, p1, rfl, hr_, hb_, hf_⟩; have RBd1 := Aside0.mk (show Kd.R (Kd.int .i64) 3 wd1 w.heap.size (fun _ => True) (.slice (some ⟨gb, 0, none⟩) 3 p1) (b.eraseIdx n) from hr_); have HBd1 := Aside0.mk (hb_ w rfl HBa1.out); have BK5d1 := Aside0.mk ((hf_ g5 (Kd.R_ne RX1.out BK5a1.out (by decide))).trans BK5a1.out); have hs1 : wd1.cell? ⟨g5, 1, none⟩ = some (.slice none 0 0) := (blk_cell BK5d1.out 1).trans rfl; have hf1 := blk_frozen BK5d1.out 1; have BK5e1 := Aside0.mk (blk_put (cs' := #[.slice (some ⟨ga, 0, none⟩) 3 p0, .slice (some ⟨gb, 0, none⟩) 3 p1, .slice none 0 0]) BK5d1.out 1 (.slice (some ⟨gb, 0, none⟩) 3 p1) rfl); have RBe1 := Aside0.mk (Kd.R_mono (Kd.R_far (p := ⟨g5, 1, none⟩) (Kd.R_types RBd1.out BK5d1.out (by decide)) (fun _ hk => hk.2) (.slice (some ⟨gb, 0, none⟩) 3 p1)) (fun _ _ => trivial)); have HBe1 := Aside0.mk (below_set (j := 1) (v := (.slice (some ⟨gb, 0, none⟩) 3 p1)) HBd1.out G5.out); have RAd1 := Aside0.mk (Kd.R_mono (Kd.R_step RAa1.out (fun k_ hk_ _ => hf_ k_ hk_.2)) (fun _ _ => trivial)); have RAe1 := Aside0.mk (Kd.R_mono (Kd.R_far (p := ⟨g5, 1, none⟩) (Kd.R_types RAd1.out BK5d1.out (by decide)) (fun _ hk => hk.2) (.slice (some ⟨gb, 0, none⟩) 3 p1)) (fun _ _ => trivial)); clear hr_ hb_ hf_))
  generalize (wd1.setCell ⟨g5, 1, none⟩ (.slice (some ⟨gb, 0, none⟩) 3 p1)) = W2 at BK5e1 HBe1 RAe1 RBe1 ⊢
  clear hi1 hs1 hf1 RL1 AL1 RX1 HBl1 HBa1 HBd1 BK5l1 BK5a1 BK5d1 RAd1 RBd1 HBe0 BK5e0 RAl1 RAz1 RAa1 RAe0
  rw [rounds_succ]
  have hi2 := ix2 A0 A1 A2 a.length b.length c.length c0 c1 c2 W2
  go_wp2_with (first | ((with_reducible refine gate_dst (N := 15) rfl ?_); refine Kd.R_lit (Kd.int .i64) _ 3 ?hg (N := 15) ?hd (xs := ([] : List Int)) (inner := []) (ok := fun _ => True) (okp := fun _ => True) ?hr ?hp (fun _ hk => hk) trivial (Below.refl _ _) (Nat.le_refl _) (by simp) ?_; (case hd => rfl); (case hg => rfl); (case hr => first | (go_simp; done) | (go_simp; rfl)); (case hp => exact (Reps.none _ _)); intro v2 wl2 ho hb hg_ hnew_; clear hg_ hnew_; have AL2 := Aside0.mk (Kd.R_base ho); have RL2 := Aside0.mk (Kd.R_lower ho (below_size HBe1.out)); have HBl2 := Aside0.mk (below_step HBe1.out hb); have BK5l2 := Aside0.mk (blk_below BK5e1.out hb); have RAl2 := Aside0.mk (Kd.R_mono (Kd.R_bound (Kd.R_below RAe1.out hb)) (fun k_ hk_ => trivial)); have RAz2 := Aside0.mk (Kd.R_elder' RAe1.out (Kd.R_base ho) hb); have RBl2 := Aside0.mk (Kd.R_mono (Kd.R_bound (Kd.R_below RBe1.out hb)) (fun k_ hk_ => trivial)); have RBz2 := Aside0.mk (Kd.R_elder' RBe1.out (Kd.R_base ho) hb); clear ho hb) | ((with_reducible refine gate_builtin (b := .append) (xs := #[.tmp 15, .tmp 16]) rfl ?_); at_builtin; refine Kd.R_append_rows (Kd.int .i64) (w0 := w) w.heap.size rfl (.tmp 15) (.tmp 16) 35 3 (.int .i64 0) 8 rfl Try.underlying35 info3 rfl (by decide) (by omega) v2 [] c A2 c.length c2 (fun _ => True) (fun _ => False) rfl rfl ?aO ?aR (fun _ _ h => h) (fun _ h => h.elim) (fun _ _ => trivial) ?aB ?aS ?aL ?_; (case aO => exact RL2.out); (case aR => exact Kd.C_below HR.out.2.2 HBl2.out); (case aB => exact HBl2.out); (case aS => exact below_size HBl2.out); (case aL => have := HL.out.2.2; simp only [List.length_nil]; omega); intro u2 wa2 ho hb hg hat; have RX2 := Aside0.mk ho; have HBa2 := Aside0.mk hb; have BK5a2 := Aside0.mk (blk_grown BK5l2.out hg (Kd.R_ne RL2.out BK5l2.out (by decide))); have RAa2 := Aside0.mk (Kd.R_after RAz2.out hg hat); have RBa2 := Aside0.mk (Kd.R_after RBz2.out hg hat); clear ho hb hg hat) | (go_at_call 87; (with_reducible refine (deleteR _ w.heap.size (fun _ => True) u2 ([] ++ c) n x (x + 1) RX2.out ?dl ?dn ?dx ?dy).mono ?_); (case dl => exact HL.out.2.2); (case dn => exact HX.out.2); (case dx => exact HX.out.1); (case dy => have := HX.out.1; omega); rintro e wd2 ⟨gc, p2, rfl, hr_, hb_, hf_⟩; have RCd2 := Aside0.mk (show Kd.R (Kd.int .i64) 3 wd2 w.heap.size (fun _ => True) (.slice (some ⟨gc, 0, none⟩) 3 p2) (c.eraseIdx n) from hr_); have HBd2 := Aside0.mk (hb_ w rfl HBa2.out); have BK5d2 := Aside0.mk ((hf_ g5 (Kd.R_ne RX2.out BK5a2.out (by decide))).trans BK5a2.out); have hs2 : wd2.cell? ⟨g5, 2, none⟩ = some (.slice none 0 0) := (blk_cell BK5d2.out 2).trans rfl; have hf2 := blk_frozen BK5d2.out 2; have BK5e2 := Aside0.mk (blk_put (cs' := #[.slice (some ⟨ga, 0, none⟩) 3 p0, .slice (some ⟨gb, 0, none⟩) 3 p1, .slice (some ⟨gc, 0, none⟩) 3 p2]) BK5d2.out 2 (.slice (some ⟨gc, 0, none⟩) 3 p2) rfl); have RCe2 := Aside0.mk (Kd.R_mono (Kd.R_far (p := ⟨g5, 2, none⟩) (Kd.R_types RCd2.out BK5d2.out (by decide)) (fun _ hk => hk.2) (.slice (some ⟨gc, 0, none⟩) 3 p2)) (fun _ _ => trivial)); have HBe2 := Aside0.mk (below_set (j := 2) (v := (.slice (some ⟨gc, 0, none⟩) 3 p2)) HBd2.out G5.out); have RAd2 := Aside0.mk (Kd.R_mono (Kd.R_step RAa2.out (fun k_ hk_ _ => hf_ k_ hk_.2)) (fun _ _ => trivial)); have RAe2 := Aside0.mk (Kd.R_mono (Kd.R_far (p := ⟨g5, 2, none⟩) (Kd.R_types RAd2.out BK5d2.out (by decide)) (fun _ hk => hk.2) (.slice (some ⟨gc, 0, none⟩) 3 p2)) (fun _ _ => trivial)); have RBd2 := Aside0.mk (Kd.R_mono (Kd.R_step RBa2.out (fun k_ hk_ _ => hf_ k_ hk_.2)) (fun _ _ => trivial)); have RBe2 := Aside0.mk (Kd.R_mono (Kd.R_far (p := ⟨g5, 2, none⟩) (Kd.R_types RBd2.out BK5d2.out (by decide)) (fun _ hk => hk.2) (.slice (some ⟨gc, 0, none⟩) 3 p2)) (fun _ _ => trivial)); clear hr_ hb_ hf_))
  generalize (wd2.setCell ⟨g5, 2, none⟩ (.slice (some ⟨gc, 0, none⟩) 3 p2)) = W3 at BK5e2 HBe2 RAe2 RBe2 RCe2 ⊢
  clear hi2 hs2 hf2 RL2 AL2 RX2 HBl2 HBa2 HBd2 BK5l2 BK5a2 BK5d2 RAd2 RBd2 RCd2 HBe1 BK5e1 RAl2 RAz2 RAa2 RAe1 RBl2 RBz2 RBa2 RBe1
  rw [rounds_succ]
  have q0 : W3.cell? ⟨g5, 0, none⟩ = some (.slice (some ⟨ga, 0, none⟩) 3 p0) := (blk_cell BK5e2.out 0).trans rfl
  obtain ⟨aa0, aa1, aa2⟩ := cells3 RAe2.out
  have q1 : W3.cell? ⟨g5, 1, none⟩ = some (.slice (some ⟨gb, 0, none⟩) 3 p1) := (blk_cell BK5e2.out 1).trans rfl
  obtain ⟨bb0, bb1, bb2⟩ := cells3 RBe2.out
  have q2 : W3.cell? ⟨g5, 2, none⟩ = some (.slice (some ⟨gc, 0, none⟩) 3 p2) := (blk_cell BK5e2.out 2).trans rfl
  obtain ⟨cc0, cc1, cc2⟩ := cells3 RCe2.out
  go_upto_region 7 with (fail)
  go_quiet (fail)
  go_wp2
  go_ret
  exact ⟨by unfold minW detW; first | rfl | (simp only [i64_w]; rfl), pw_below_drewN HBe2.out _⟩
end Go.Proofs.Ytmbninbecclbiaa.Man

end
section
/- impl.lineOf: the row on which three rows are 0; no condition but the rows' lengths and a bound on the minors. -/
namespace Go.Proofs.Ytmbninbecclbiaa.Man
open Go.RowKit Go.Proofs.Ytmbninbecclbiaa.PA Go.Proofs.YtmbninbecclbiaaW.PrintWords Go.Proofs.YtmbninbecclbiaaW.PrintLast Go.Proofs.YtmbninbecclbiaaW.PrintMore
set_option linter.unusedVariables false
set_option linter.unusedSimpArgs false
attribute [local go_sem] max2_int min2_int max_two min_two max_three min_three max_four min_four

/-- Signs alternate. -/
def sg (i : Nat) : Int := if i % 2 = 0 then 1 else -1
def ml (a b c : List Int) (i : Nat) : Int := minW (a.eraseIdx i) (b.eraseIdx i) (c.eraseIdx i)
def vl (m : Nat → Int) (i : Nat) : Int := sg i * m i
def pl (m : Nat → Int) (i : Nat) : List Int := (List.range i).map (vl m) ++ List.replicate (4 - i) 0
def gl (m : Nat → Int) : Nat → Nat
  | 0 => 0
  | i + 1 => Nat.gcd (gl m i) (vl m i).natAbs
/-- What lineOf answers. -/
def dl (m : Nat → Int) : Int := if Go.Lib.minOf (pl m 4) < 0 then -(gl m 4 : Int) else (gl m 4 : Int)
def ol (m : Nat → Int) : List Int := (pl m 4).map fun x => Int.tdiv x (dl m)
def lineL (m : Nat → Int) : List Int := if gl m 4 = 0 then [] else if Go.Lib.minOf (ol m) < 0 then [] else ol m

theorem pl_len (m : Nat → Int) (i : Nat) (h : i ≤ 4) : (pl m i).length = 4 := by unfold pl; simp; omega
theorem pl_set (m : Nat → Int) (i : Nat) (h : i < 4) : (pl m i).set i (vl m i) = pl m (i + 1) := by
  have e : i = 0 ∨ i = 1 ∨ i = 2 ∨ i = 3 := by omega
  rcases e with rfl | rfl | rfl | rfl <;> rfl
theorem pl_at (m : Nat → Int) (i : Nat) (h : i < 4) : rd (pl m (i + 1)) (i : Int) = vl m i := by
  have e : i = 0 ∨ i = 1 ∨ i = 2 ∨ i = 3 := by omega
  rcases e with rfl | rfl | rfl | rfl <;> rfl
theorem sg_two (i : Nat) : (sg i = 1 ∨ sg i = -1) ∧ sg (i + 1) = - sg i := by
  unfold sg
  by_cases h : i % 2 = 0
  · rw [if_pos h, if_neg (by omega)]; exact ⟨Or.inl rfl, rfl⟩
  · rw [if_neg h, if_pos (by omega)]; exact ⟨Or.inr rfl, rfl⟩
theorem vl_le {m : Nat → Int} {i : Nat} (h : -1000 ≤ m i ∧ m i ≤ 1000) : -1000 ≤ vl m i ∧ vl m i ≤ 1000 := by
  unfold vl
  rcases (sg_two i).1 with e | e <;> rw [e] <;> omega
theorem gl_le {m : Nat → Int} (h : ∀ i, i < 4 → -1000 ≤ m i ∧ m i ≤ 1000) : ∀ i, i ≤ 4 → gl m i ≤ 1000
  | 0, _ => by unfold gl; omega
  | i + 1, hi => by
    have h1 := vl_le (h i (by omega))
    have h2 := gl_le h i (by omega)
    show Nat.gcd (gl m i) (vl m i).natAbs ≤ 1000
    by_cases h0 : gl m i = 0
    · rw [h0, Nat.gcd_zero_left]; omega
    · have := Nat.gcd_le_left (vl m i).natAbs (Nat.pos_of_ne_zero h0); omega
def ql (m : Nat → Int) (j : Nat) : List Int := ((pl m 4).take j).map (fun x => Int.tdiv x (dl m)) ++ (pl m 4).drop j
theorem ql_all (m : Nat → Int) (j : Nat) (h : j < 4) : rd (ql m j) (j : Int) = vl m j ∧ (ql m j).set j (Int.tdiv (vl m j) (dl m)) = ql m (j + 1) := by
  have e : j = 0 ∨ j = 1 ∨ j = 2 ∨ j = 3 := by omega
  rcases e with rfl | rfl | rfl | rfl <;> exact ⟨rfl, rfl⟩
theorem ol_len (m : Nat → Int) : (ol m).length = 4 := rfl
/-- One step of Euclid's. -/
theorem gcd_step (p q : Int) : Int.gcd q (Int.tmod p q) = Int.gcd p q := by
  rw [Int.gcd_comm p q]
  unfold Int.gcd
  rw [Int.natAbs_tmod, Nat.gcd_comm q.natAbs (p.natAbs % q.natAbs), ← Nat.gcd_rec]

set_option maxHeartbeats 8000000 in
set_option maxRecDepth 100000 in
theorem lineOf (w : World) (A0 A1 A2 : Option Addr) (c0 c1 c2 : Nat) (a b c : List Int) (r0 : Kd.C (Kd.int .i64) w A0 a.length a) (r1 : Kd.C (Kd.int .i64) w A1 b.length b) (r2 : Kd.C (Kd.int .i64) w A2 c.length c) (la : a.length = 4) (lb : b.length = 4) (lc : c.length = 4) (hm : ∀ i, i < 4 → -1000 ≤ ml a b c i ∧ ml a b c i ≤ 1000) :
    Calls Try.prog 68 #[.agg #[.slice A0 a.length c0, .slice A1 b.length c1, .slice A2 c.length c2]] w fun e w' => ∃ v, e = .returned v ∧ Kd.R (Kd.int .i64) 3 w' w.heap.size (fun _ => True) v (lineL (ml a b c)) ∧ (lineL (ml a b c) = [] → v = .slice none 0 0) ∧ Below w.heap.size w w' := by
  have HM := Aside0.mk (fun (W : World) (hb : Below w.heap.size w W) (n : Nat) (x : Int) (hx : x = (n : Int)) (hn : n < 4) => minorOf W A0 A1 A2 c0 c1 c2 a b c n x hx hn (Kd.C_below r0 hb) (Kd.C_below r1 hb) (Kd.C_below r2 hb) la lb lc)
  have HX := Aside0.mk hm
  have HB0 := Aside0.mk (Below.refl w.heap.size w)
  obtain ⟨m, hmd⟩ : ∃ m, m = ml a b c := ⟨_, rfl⟩
  rw [← hmd] at HX ⊢
  have HD := Aside0.mk hmd
  clear r0 r1 r2 hm hmd la lb lc
  go_enter Try.func68, Try.ntmps68
  go_wp2_with (first | ((with_reducible refine gate_dst (N := 1) rfl ?_); refine box_event ?hg (N := 1) ?hd (cs := #[.slice A0 a.length c0, .slice A1 b.length c1, .slice A2 c.length c2]) (t := 75) ?hr ?_; (case hd => rfl); (case hg => rfl); (case hr => first | (go_simp; done) | (go_simp; rfl)); intro g1 hg1 wg1 hbox hb; have BK1 := Aside0.mk hbox; have HB1 := Aside0.mk (below_step HB0.out hb); clear hbox hb hg1) | ((with_reducible refine gate_dst (N := 10) rfl ?_); refine Kd.R_make (Kd.int .i64) _ 3 rfl (N := 10) rfl 35 _ _ rfl 4 rfl rfl Try.underlying35 (.int .i64 0) 8 info3 rfl (by decide) (by omega) 0 (ok := fun _ => True) (okp := fun _ => True) rfl (fun _ hk => hk) trivial (by omega) (by omega) (Below.refl _ _) (Nat.le_refl _) ?_; intro v10 w10 ho hb hg_ hnew_; clear hg_ hnew_; have RO0 := Aside0.mk (show Kd.R (Kd.int .i64) 3 w10 w.heap.size (fun _ => True) v10 (pl m 0) from Kd.R_lower ho (below_size HB1.out)); have BK10 := Aside0.mk (blk_below BK1.out hb); have HB10 := Aside0.mk (below_step HB1.out hb); obtain ⟨go_, co_, rfl, _⟩ := Kd.R_form RO0.out (by rw [pl_len m 0 (by omega)]; omega); clear ho hb))
  have e40 := pl_len m 0 (by omega)
  rw [e40] at RO0 ⊢
  go_loopg [4, 5, 13] 4 (fun kq v4 v5 v13 w' => ∃ (i : Nat) (x d s : Int), v13 = .int .i64 x ∧ v4 = .int .i64 d ∧ v5 = .int .i64 s ∧ Aside0 (x = (i : Int)) ∧ Aside0 (i + kq = 4) ∧ Aside0 (d = (gl m i : Int)) ∧ Aside0 (s = sg i) ∧ Aside0 (Kd.R (Kd.int .i64) 3 w' w.heap.size (fun _ => True) (.slice (some ⟨go_, 0, none⟩) 4 co_) (pl m i)) ∧ Aside0 (w'.heap[g1]? = some (.cells #[.slice A0 a.length c0, .slice A1 b.length c1, .slice A2 c.length c2] 75 (0, 0))) ∧ Aside0 (Below w.heap.size w w'))
  case atStart => exact ⟨0, 0, 0, 1, rfl, rfl, rfl, ⟨rfl⟩, ⟨rfl⟩, ⟨rfl⟩, ⟨rfl⟩, RO0, BK10, HB10⟩
  case round =>
    clear RO0 BK1 BK10 HB0 HB1 HB10 e40
    obtain ⟨i, x, d, s, rfl, rfl, rfl, HI, HK, HG, HS, RO, BK, HB⟩ := hrel
    cases gk with
    | zero =>
      have hx := HI.out
      obtain rfl : i = 4 := by have := HK.out; omega
      have xn : decide (x < 4) = false := decide_eq_false (by omega)
      have l4 := pl_len m 4 (by omega)
      have HMn := Aside0.mk (minR wr w.heap.size (fun _ => True) _ _ RO.out l4)
      obtain ⟨mn, hmn⟩ : ∃ mn, mn = Go.Lib.minOf (pl m 4) := ⟨_, rfl⟩
      rw [← hmn] at HMn
      have HN := Aside0.mk hmn
      have HGL := Aside0.mk (gl_le HX.out 4 (by omega))
      have HVB := Aside0.mk (show ∀ j, j < 4 → -1000 ≤ vl m j ∧ vl m j ≤ 1000 from fun j hj => vl_le (HX.out j hj))
      clear l4 hx hmn
      by_cases hd : d = 0
      · have d0 : (d == 0) = true := beq_iff_eq.2 hd
        have HL := Aside0.mk (show lineL m = [] by unfold lineL; rw [if_pos (by have := HG.out; omega)])
        clear hd
        go_wp2
        go_ret
        exact ⟨_, rfl, by rw [HL.out]; exact Kd.R_nil _ _ _ _ _, fun _ => rfl, HB.out⟩
      · have d0 : (d == 0) = false := beq_eq_false_iff_ne.2 hd
        have HDn := Aside0.mk (show (1 : Int) ≤ d ∧ d ≤ 1000 by have := HG.out; have := HGL.out; omega)
        have HLn := Aside0.mk (show gl m 4 ≠ 0 by have := HG.out; omega)
        clear hd
        by_cases h : mn < 0
        · skip
          have n0 : decide (mn < 0) = true := decide_eq_true h
          have hdn : wrap64 (-d) = -d := by have := HDn.out; unfold wrap64; omega
          have HDL := Aside0.mk (show dl m = wrap64 (-d) by unfold dl; rw [← HN.out, if_pos h, HG.out]; rw [← HG.out, hdn])
          have HDB := Aside0.mk (show wrap64 (-d) ≠ 0 ∧ -1000 ≤ wrap64 (-d) ∧ wrap64 (-d) ≤ 1000 by have := HDn.out; rw [hdn]; omega)
          clear h hdn
          go_wp2_with (first | (go_at_call 82; (with_reducible refine HMn.out.mono ?_); rintro e wq ⟨rfl, rfl⟩))
          generalize wrap64 (-d) = D at HDL HDB ⊢
          go_loopg [51] 4 (fun kq v51 w' => ∃ (j : Nat) (y : Int), v51 = .int .i64 y ∧ Aside0 (y = (j : Int)) ∧ Aside0 (j + kq = 4) ∧ Aside0 (Kd.R (Kd.int .i64) 3 w' w.heap.size (fun _ => True) (.slice (some ⟨go_, 0, none⟩) 4 co_) (ql m j)) ∧ Aside0 (Below w.heap.size w w'))
          case atStart => exact ⟨0, 0, rfl, ⟨rfl⟩, ⟨rfl⟩, RO, HB⟩
          case round =>
            clear RO HB BK HMn
            obtain ⟨j, y, rfl, HJ, HKJ, RO, HB⟩ := hrel
            cases gk with
            | zero =>
              have yn : decide (y < 4) = false := decide_eq_false (by have := HJ.out; have := HKJ.out; omega)
              have RO4 := Aside0.mk (show Kd.R (Kd.int .i64) 3 wr w.heap.size (fun _ => True) (.slice (some ⟨go_, 0, none⟩) 4 co_) (ol m) by rw [show j = 4 by have := HKJ.out; omega] at RO; exact RO.out)
              have HMo := Aside0.mk (minR wr w.heap.size (fun _ => True) _ _ RO4.out (ol_len m))
              obtain ⟨mo, hmo⟩ : ∃ mo, mo = Go.Lib.minOf (ol m) := ⟨_, rfl⟩
              rw [← hmo] at HMo
              by_cases h : mo < 0
              · have o0 : decide (mo < 0) = true := decide_eq_true h
                have HL := Aside0.mk (show lineL m = [] by unfold lineL; rw [if_neg HLn.out, ← hmo, if_pos h])
                clear h hmo
                go_wp2_with (first | (go_at_call 82; (with_reducible refine HMo.out.mono ?_); rintro e wq ⟨rfl, rfl⟩))
                go_ret
                exact ⟨_, rfl, by rw [HL.out]; exact Kd.R_nil _ _ _ _ _, fun _ => rfl, HB.out⟩
              · have o0 : decide (mo < 0) = false := decide_eq_false h
                have HL := Aside0.mk (show lineL m = ol m by unfold lineL; rw [if_neg HLn.out, ← hmo, if_neg h])
                clear h hmo
                go_wp2_with (first | (go_at_call 82; (with_reducible refine HMo.out.mono ?_); rintro e wq ⟨rfl, rfl⟩))
                go_ret
                exact ⟨_, rfl, by rw [HL.out]; exact RO4.out, fun e => absurd (congrArg List.length (HL.out.symm.trans e)) (by rw [ol_len]; decide), HB.out⟩
            | succ k1 =>
              have y0 : 0 ≤ y := by have := HJ.out; omega
              have y4 : y < 4 := by have := HJ.out; have := HKJ.out; omega
              have yn : decide (y < 4) = true := decide_eq_true y4
              have HJ1 := Aside0.mk (show y + 1 = ((j + 1 : Nat) : Int) by have := HJ.out; omega)
              have hj4 := Aside0.mk (show j < 4 by have := HKJ.out; omega)
              have G0 := Aside0.mk (Kd.R_base RO.out go_ rfl)
              obtain ⟨vj, hvj⟩ : ∃ vj, vj = vl m j := ⟨_, rfl⟩
              have HVJ := Aside0.mk hvj
              obtain ⟨hx5, hf5⟩ := Kd.R_celln 0 RO.out y y0 (by omega)
              rw [show rdOf 0 (ql m j) y = vj by rw [hvj, ← (ql_all m j hj4.out).1, HJ.out]; rfl] at hx5
              clear hvj
              have DZ : D ≠ 0 := HDB.out.1
              have DZ1 : (D == 0) = false := beq_eq_false_iff_ne.2 DZ
              have HWQ := Aside0.mk (show wrap64 (Int.tdiv vj D) = Int.tdiv (vl m j) (dl m) by
                rw [HDL.out, ← HVJ.out]
                have h1 := Int.natAbs_tdiv vj D
                have h2 := Nat.div_le_self vj.natAbs D.natAbs
                have h4 : (Int.tdiv vj D).natAbs ≤ vj.natAbs := by rw [h1]; exact h2
                have h3 := HVB.out j hj4.out
                clear h1 h2
                rw [← HVJ.out] at h3
                unfold wrap64
                omega)
              have HP5 := Kd.R_putg RO.out y (wrap64 (Int.tdiv vj D))
              go_wp2_with (first | ((with_reducible refine gate_store (t := 3) (p := 60) rfl ?_); refine store_event (t := 3) (p := 60) (v := ?voD) (w1 := (wr.setCell ⟨go_, y.toNat, none⟩ (.int .i64 (wrap64 (Int.tdiv vj D))))) ?hg ?ho ?hn ?hr ?_; (case ho => rfl); (case hg => rfl); (case hn => rfl); (case hr => first | (go_simp; done) | (go_simp; rfl)); intro w8 hw; have RO8 := Aside0.mk (show Kd.R (Kd.int .i64) 3 w8 w.heap.size (fun _ => True) (.slice (some ⟨go_, 0, none⟩) 4 co_) (ql m (j + 1)) by rw [hw, ← (ql_all m j hj4.out).2, ← HWQ.out]; have e := HP5.1; rw [show (ql m j).set y.toNat (wrap64 (Int.tdiv vj D)) = (ql m j).set j (wrap64 (Int.tdiv vj D)) by rw [show y.toNat = j by have := HJ.out; omega]] at e; exact e); have HB8 := Aside0.mk (show Below w.heap.size w w8 by rw [hw]; exact below_set HB.out G0.out); clear hw HP5))
              go_roundg k1
              case measure => have := HKJ.out; omega
              case rel => exact ⟨j + 1, y + 1, rfl, HJ1, ⟨by have := HKJ.out; omega⟩, RO8, HB8⟩
        · skip
          have n0 : decide (mn < 0) = false := decide_eq_false h
          have HDL := Aside0.mk (show dl m = d by unfold dl; rw [← HN.out, if_neg h, HG.out])
          have HDB := Aside0.mk (show d ≠ 0 ∧ -1000 ≤ d ∧ d ≤ 1000 by have := HDn.out; omega)
          clear h
          go_wp2_with (first | (go_at_call 82; (with_reducible refine HMn.out.mono ?_); rintro e wq ⟨rfl, rfl⟩))
          go_loopg [51] 4 (fun kq v51 w' => ∃ (j : Nat) (y : Int), v51 = .int .i64 y ∧ Aside0 (y = (j : Int)) ∧ Aside0 (j + kq = 4) ∧ Aside0 (Kd.R (Kd.int .i64) 3 w' w.heap.size (fun _ => True) (.slice (some ⟨go_, 0, none⟩) 4 co_) (ql m j)) ∧ Aside0 (Below w.heap.size w w'))
          case atStart => exact ⟨0, 0, rfl, ⟨rfl⟩, ⟨rfl⟩, RO, HB⟩
          case round =>
            clear RO HB BK HMn
            obtain ⟨j, y, rfl, HJ, HKJ, RO, HB⟩ := hrel
            cases gk with
            | zero =>
              have yn : decide (y < 4) = false := decide_eq_false (by have := HJ.out; have := HKJ.out; omega)
              have RO4 := Aside0.mk (show Kd.R (Kd.int .i64) 3 wr w.heap.size (fun _ => True) (.slice (some ⟨go_, 0, none⟩) 4 co_) (ol m) by rw [show j = 4 by have := HKJ.out; omega] at RO; exact RO.out)
              have HMo := Aside0.mk (minR wr w.heap.size (fun _ => True) _ _ RO4.out (ol_len m))
              obtain ⟨mo, hmo⟩ : ∃ mo, mo = Go.Lib.minOf (ol m) := ⟨_, rfl⟩
              rw [← hmo] at HMo
              by_cases h : mo < 0
              · have o0 : decide (mo < 0) = true := decide_eq_true h
                have HL := Aside0.mk (show lineL m = [] by unfold lineL; rw [if_neg HLn.out, ← hmo, if_pos h])
                clear h hmo
                go_wp2_with (first | (go_at_call 82; (with_reducible refine HMo.out.mono ?_); rintro e wq ⟨rfl, rfl⟩))
                go_ret
                exact ⟨_, rfl, by rw [HL.out]; exact Kd.R_nil _ _ _ _ _, fun _ => rfl, HB.out⟩
              · have o0 : decide (mo < 0) = false := decide_eq_false h
                have HL := Aside0.mk (show lineL m = ol m by unfold lineL; rw [if_neg HLn.out, ← hmo, if_neg h])
                clear h hmo
                go_wp2_with (first | (go_at_call 82; (with_reducible refine HMo.out.mono ?_); rintro e wq ⟨rfl, rfl⟩))
                go_ret
                exact ⟨_, rfl, by rw [HL.out]; exact RO4.out, fun e => absurd (congrArg List.length (HL.out.symm.trans e)) (by rw [ol_len]; decide), HB.out⟩
            | succ k1 =>
              have y0 : 0 ≤ y := by have := HJ.out; omega
              have y4 : y < 4 := by have := HJ.out; have := HKJ.out; omega
              have yn : decide (y < 4) = true := decide_eq_true y4
              have HJ1 := Aside0.mk (show y + 1 = ((j + 1 : Nat) : Int) by have := HJ.out; omega)
              have hj4 := Aside0.mk (show j < 4 by have := HKJ.out; omega)
              have G0 := Aside0.mk (Kd.R_base RO.out go_ rfl)
              obtain ⟨vj, hvj⟩ : ∃ vj, vj = vl m j := ⟨_, rfl⟩
              have HVJ := Aside0.mk hvj
              obtain ⟨hx5, hf5⟩ := Kd.R_celln 0 RO.out y y0 (by omega)
              rw [show rdOf 0 (ql m j) y = vj by rw [hvj, ← (ql_all m j hj4.out).1, HJ.out]; rfl] at hx5
              clear hvj
              have DZ : d ≠ 0 := HDB.out.1
              have DZ1 : (d == 0) = false := beq_eq_false_iff_ne.2 DZ
              have HWQ := Aside0.mk (show wrap64 (Int.tdiv vj d) = Int.tdiv (vl m j) (dl m) by
                rw [HDL.out, ← HVJ.out]
                have h1 := Int.natAbs_tdiv vj d
                have h2 := Nat.div_le_self vj.natAbs d.natAbs
                have h4 : (Int.tdiv vj d).natAbs ≤ vj.natAbs := by rw [h1]; exact h2
                have h3 := HVB.out j hj4.out
                clear h1 h2
                rw [← HVJ.out] at h3
                unfold wrap64
                omega)
              have HP5 := Kd.R_putg RO.out y (wrap64 (Int.tdiv vj d))
              go_wp2_with (first | ((with_reducible refine gate_store (t := 3) (p := 60) rfl ?_); refine store_event (t := 3) (p := 60) (v := ?vod) (w1 := (wr.setCell ⟨go_, y.toNat, none⟩ (.int .i64 (wrap64 (Int.tdiv vj d))))) ?hg ?ho ?hn ?hr ?_; (case ho => rfl); (case hg => rfl); (case hn => rfl); (case hr => first | (go_simp; done) | (go_simp; rfl)); intro w8 hw; have RO8 := Aside0.mk (show Kd.R (Kd.int .i64) 3 w8 w.heap.size (fun _ => True) (.slice (some ⟨go_, 0, none⟩) 4 co_) (ql m (j + 1)) by rw [hw, ← (ql_all m j hj4.out).2, ← HWQ.out]; have e := HP5.1; rw [show (ql m j).set y.toNat (wrap64 (Int.tdiv vj d)) = (ql m j).set j (wrap64 (Int.tdiv vj d)) by rw [show y.toNat = j by have := HJ.out; omega]] at e; exact e); have HB8 := Aside0.mk (show Below w.heap.size w w8 by rw [hw]; exact below_set HB.out G0.out); clear hw HP5))
              go_roundg k1
              case measure => have := HKJ.out; omega
              case rel => exact ⟨j + 1, y + 1, rfl, HJ1, ⟨by have := HKJ.out; omega⟩, RO8, HB8⟩
    | succ k1 =>
      have hx := HI.out
      have hk := HK.out
      have x0 : 0 ≤ x := by omega
      have x4 : x < 4 := by omega
      have xn : decide (x < 4) = true := decide_eq_true x4
      have HI1 := Aside0.mk (show x + 1 = ((i + 1 : Nat) : Int) by omega)
      have hi4 := Aside0.mk (show i < 4 by omega)
      have q0 : wr.cell? ⟨g1, 0, none⟩ = some (.slice A0 a.length c0) := (blk_cell BK.out 0).trans rfl
      have q1 : wr.cell? ⟨g1, 1, none⟩ = some (.slice A1 b.length c1) := (blk_cell BK.out 1).trans rfl
      have q2 : wr.cell? ⟨g1, 2, none⟩ = some (.slice A2 c.length c2) := (blk_cell BK.out 2).trans rfl
      obtain ⟨mi, hmi⟩ : ∃ mi, mi = m i := ⟨_, rfl⟩
      have HC := Aside0.mk (show Calls Try.prog 81 #[.agg #[.slice A0 a.length c0, .slice A1 b.length c1, .slice A2 c.length c2], .int .i64 x] wr fun e w' => e = .returned (.int .i64 mi) ∧ Below wr.heap.size wr w' by rw [hmi, HD.out]; exact HM.out wr HB.out i x hx hi4.out)
      have hb1 := HX.out i hi4.out
      have hv1 := vl_le hb1
      have HW1 := Aside0.mk (show wrap64 (s * mi) = vl m i by rw [HS.out, hmi]; show wrap64 (vl m i) = vl m i; unfold wrap64; omega)
      have HW2 := Aside0.mk (show wrap64 (-s) = sg (i + 1) by rw [HS.out, (sg_two i).2]; rcases (sg_two i).1 with e | e <;> rw [e] <;> (unfold wrap64; omega))
      obtain ⟨vi, hvi⟩ : ∃ vi, vi = wrap64 (s * mi) := ⟨_, rfl⟩
      have HV := Aside0.mk (show vi = vl m i by rw [hvi]; exact HW1.out)
      have HVW := Aside0.mk hvi
      have G0 := Aside0.mk (Kd.R_base RO.out go_ rfl)
      clear hx hk hmi hb1 hv1 hvi
      go_upto_region 8 with (first | (go_at_call 81; (with_reducible refine HC.out.mono ?_); rintro e w5 ⟨rfl, hb_⟩; have RO5 := Aside0.mk (Kd.R_below RO.out hb_); have BK5 := Aside0.mk (blk_below BK.out hb_); have HB5 := Aside0.mk (below_step HB.out hb_); obtain ⟨hx5, hf5⟩ := Kd.R_celln 0 RO5.out x x0 (by have := x4; omega); have HP5 := Kd.R_putg RO5.out x (wrap64 (s * mi)); clear hb_) | ((with_reducible refine gate_store (t := 3) (p := 23) rfl ?_); (refine store_event (t := 3) (p := 23) (v := ?vo) (w1 := (w5.setCell ⟨go_, x.toNat, none⟩ (.int .i64 (wrap64 (s * mi))))) ?hg ?ho ?hn ?hr ?_; (case ho => rfl); (case hg => rfl); (case hn => rfl); (case hr => first | (go_simp; done) | (go_simp; rfl)); intro w8 hw; have RO8 := Aside0.mk (show Kd.R (Kd.int .i64) 3 w8 w.heap.size (fun _ => True) (.slice (some ⟨go_, 0, none⟩) 4 co_) (pl m (i + 1)) by rw [hw, show pl m (i + 1) = (pl m i).set x.toNat (wrap64 (s * mi)) by rw [show x.toNat = i by have := HI.out; omega, HW1.out, pl_set m i hi4.out]]; exact HP5.1); have BK8 := Aside0.mk (show w8.heap[g1]? = some (.cells #[.slice A0 a.length c0, .slice A1 b.length c1, .slice A2 c.length c2] 75 (0, 0)) by rw [hw]; exact (Below.heap_setCell _ ⟨go_, x.toNat, none⟩ _ g1 (by have := Kd.R_ne RO5.out BK5.out (by decide); intro e; exact this (by rw [e]; rfl))).trans BK5.out); have HB8 := Aside0.mk (show Below w.heap.size w w8 by rw [hw]; exact below_set HB5.out G0.out); obtain ⟨hx8, hf8⟩ := Kd.R_celln 0 RO8.out x x0 (by have := x4; omega); rw [show rdOf 0 (pl m (i + 1)) x = vi by rw [HV.out, ← pl_at m i hi4.out, HI.out]; rfl] at hx8; clear hw HP5 hx5 hf5)))
      go_quiet (fail)
      go_wp2
      go_loopg [7, 8] 1000 (fun kq v7 v8 w' => ∃ p q : Int, v7 = .int .i64 p ∧ v8 = .int .i64 q ∧ Aside0 (Int.gcd p q = gl m (i + 1)) ∧ Aside0 (q.natAbs ≤ kq) ∧ Aside0 ((-1000 ≤ p ∧ p ≤ 1000) ∧ -1000 ≤ q ∧ q ≤ 1000) ∧ Aside0 (Kd.R (Kd.int .i64) 3 w' w.heap.size (fun _ => True) (.slice (some ⟨go_, 0, none⟩) 4 co_) (pl m (i + 1))) ∧ Aside0 (w'.heap[g1]? = some (.cells #[.slice A0 a.length c0, .slice A1 b.length c1, .slice A2 c.length c2] 75 (0, 0))) ∧ Aside0 (Below w.heap.size w w'))
      case atStart =>
        have hv1 := vl_le (HX.out i hi4.out)
        have hg1 := gl_le HX.out i (by have := hi4.out; omega)
        exact ⟨d, vi, rfl, rfl, ⟨by rw [HV.out, HG.out]; rfl⟩, ⟨by rw [HV.out]; omega⟩, ⟨by rw [HV.out, HG.out]; omega⟩, ⟨Kd.R_drewN RO8.out _⟩, ⟨blk_drewN BK8.out _⟩, ⟨pw_below_drewN HB8.out _⟩⟩
      case round =>
        clear RO8 BK8 HB8 hx8 hf8 HC HG HV HVW HW1
        obtain ⟨p, q, rfl, rfl, HGC, HQ, HPQ, RO8, BK8, HB8⟩ := hrel
        by_cases hq : q = 0
        · have hq0 : (q == 0) = true := beq_iff_eq.2 hq
          have hnp : wrap64 (-p) = -p := by have := HPQ.out; unfold wrap64; omega
          have hgc := HGC.out
          rw [hq, Int.gcd_zero_right] at hgc
          by_cases hp : p < 0
          · have t1 : p < -p := by omega
            have HGL := Aside0.mk (show -p = (gl m (i + 1) : Int) by omega)
            clear hq hp hgc
            go_wp2
            go_roundg k1
            case measure => have := HK.out; omega
            case rel => exact ⟨i + 1, x + 1, -p, wrap64 (-s), rfl, rfl, rfl, HI1, ⟨by have := HK.out; omega⟩, HGL, HW2, RO8, BK8, HB8⟩
          · have t1 : ¬ p < -p := by omega
            have HGL := Aside0.mk (show p = (gl m (i + 1) : Int) by omega)
            clear hq hp hgc
            go_wp2
            go_roundg k1
            case measure => have := HK.out; omega
            case rel => exact ⟨i + 1, x + 1, p, wrap64 (-s), rfl, rfl, rfl, HI1, ⟨by have := HK.out; omega⟩, HGL, HW2, RO8, BK8, HB8⟩
        · have hq0 : (q == 0) = false := beq_eq_false_iff_ne.2 hq
          obtain ⟨k2, rfl⟩ : ∃ k2, gk = k2 + 1 := ⟨gk - 1, by have := HQ.out; omega⟩
          have ht := Int.natAbs_tmod p q
          have hlt : (Int.tmod p q).natAbs < q.natAbs := by rw [ht]; exact Nat.mod_lt _ (by omega)
          have HT := Aside0.mk (show (Int.tmod p q).natAbs ≤ k2 by have := HQ.out; omega)
          have HT2 := Aside0.mk (show (-1000 ≤ q ∧ q ≤ 1000) ∧ -1000 ≤ Int.tmod p q ∧ Int.tmod p q ≤ 1000 by have := HPQ.out; omega)
          have HG2 := Aside0.mk (show Int.gcd q (Int.tmod p q) = gl m (i + 1) by rw [gcd_step]; exact HGC.out)
          obtain ⟨tm, htm⟩ : ∃ tm, tm = Int.tmod p q := ⟨_, rfl⟩
          have HTM := Aside0.mk htm
          rw [← htm] at HT HT2 HG2
          clear ht hlt htm
          go_upto_region 9 with (fail)
          go_quiet (fail)
          go_wp2
          go_roundg k2
          case measure => have := HQ.out; omega
          case rel => exact ⟨q, Int.tmod p q, rfl, rfl, ⟨by rw [← HTM.out]; exact HG2.out⟩, ⟨by rw [← HTM.out]; exact HT.out⟩, ⟨by rw [← HTM.out]; exact HT2.out⟩, ⟨Kd.R_drewN RO8.out _⟩, ⟨blk_drewN BK8.out _⟩, ⟨pw_below_drewN HB8.out _⟩⟩
end Go.Proofs.Ytmbninbecclbiaa.Man

end
section
/- A long region that only reads: that its text's order is one that it may take, shown step by step (in one piece it takes more memory than there is). -/
namespace Go.Proofs.Ytmbninbecclbiaa.Man
open Go.RowKit Go.Proofs.Ytmbninbecclbiaa.PA Go.Proofs.YtmbninbecclbiaaW.PrintWords Go.Proofs.YtmbninbecclbiaaW.PrintLast Go.Proofs.YtmbninbecclbiaaW.PrintMore
set_option linter.unusedVariables false
set_option linter.unusedSimpArgs false

def lst (n k : Nat) : Array Bool := (List.replicate k true ++ List.replicate (n - k) false).toArray
def stepB (md : Region.Mode) (ops : Array Oper) (n k : Nat) : Bool := (Region.ready md ops (lst n k)).contains k && Region.free md ops (lst n k) k
theorem lst_next (n k : Nat) (h : k < n) : (lst n k).setIfInBounds k true = lst n (k + 1) := by
  unfold lst
  rw [List.setIfInBounds_toArray, List.set_append, List.length_replicate, if_neg (by omega), Nat.sub_self]
  obtain ⟨m, hm⟩ : ∃ m, n - k = m + 1 := ⟨n - k - 1, by omega⟩
  rw [hm, List.replicate_succ, List.set_cons_zero, show n - (k + 1) = m by omega, List.replicate_succ', List.append_assoc]
  rfl
theorem lex_from (md : Region.Mode) (ops : Array Oper) (n : Nat) (h : ∀ k, k < n → stepB md ops n k = true) (he : (Region.ready md ops (lst n n)).isEmpty = true) : ∀ f k, k + f = n → Region.lexFrom md ops f k (lst n k) = true
  | 0, k, hk => by
    obtain rfl : k = n := by omega
    exact he
  | f + 1, k, hk => by
    have h1 := h k (by omega)
    unfold stepB at h1
    rw [Bool.and_eq_true] at h1
    show ((Region.ready md ops (lst n k)).contains k && Region.free md ops (lst n k) k && Region.lexFrom md ops f (k + 1) ((lst n k).setIfInBounds k true)) = true
    rw [h1.1, h1.2, lst_next n k (by omega), lex_from md ops n h he f (k + 1) (by omega)]
    rfl
theorem lexB_of {md : Region.Mode} {ops : Array Oper} {n : Nat} (hn : ops.size = n) (hs : Region.noSelect ops = true) (h : ∀ k, k < n → stepB md ops n k = true) (he : (Region.ready md ops (lst n n)).isEmpty = true) : Region.lexB md ops = true := by
  unfold Region.lexB
  rw [hs, Bool.true_and, hn]
  have e : Array.replicate n false = lst n 0 := by
    unfold lst
    apply Array.ext'
    simp
  rw [e]
  exact lex_from md ops n h he n 0 (by omega)
theorem lex_cast {a b : Array Oper} (h : a = b) (hb : Region.lexB .any b = true) : Region.lexB .any a = true := by rw [h]; exact hb
theorem l6size : (opsOf Try.f76 11).size = 105 := by kernel_rfl
theorem l6sel : Region.noSelect (opsOf Try.f76 11) = true := by kernel_rfl
theorem l6s0 : ((List.range 7).all fun j => stepB .any (opsOf Try.f76 11) 105 (0 + j)) = true := by kernel_rfl
theorem l6s1 : ((List.range 7).all fun j => stepB .any (opsOf Try.f76 11) 105 (7 + j)) = true := by kernel_rfl
theorem l6s2 : ((List.range 7).all fun j => stepB .any (opsOf Try.f76 11) 105 (14 + j)) = true := by kernel_rfl
theorem l6s3 : ((List.range 7).all fun j => stepB .any (opsOf Try.f76 11) 105 (21 + j)) = true := by kernel_rfl
theorem l6s4 : ((List.range 7).all fun j => stepB .any (opsOf Try.f76 11) 105 (28 + j)) = true := by kernel_rfl
theorem l6s5 : ((List.range 7).all fun j => stepB .any (opsOf Try.f76 11) 105 (35 + j)) = true := by kernel_rfl
theorem l6s6 : ((List.range 7).all fun j => stepB .any (opsOf Try.f76 11) 105 (42 + j)) = true := by kernel_rfl
theorem l6s7 : ((List.range 7).all fun j => stepB .any (opsOf Try.f76 11) 105 (49 + j)) = true := by kernel_rfl
theorem l6s8 : ((List.range 7).all fun j => stepB .any (opsOf Try.f76 11) 105 (56 + j)) = true := by kernel_rfl
theorem l6s9 : ((List.range 7).all fun j => stepB .any (opsOf Try.f76 11) 105 (63 + j)) = true := by kernel_rfl
theorem l6s10 : ((List.range 7).all fun j => stepB .any (opsOf Try.f76 11) 105 (70 + j)) = true := by kernel_rfl
theorem l6s11 : ((List.range 7).all fun j => stepB .any (opsOf Try.f76 11) 105 (77 + j)) = true := by kernel_rfl
theorem l6s12 : ((List.range 7).all fun j => stepB .any (opsOf Try.f76 11) 105 (84 + j)) = true := by kernel_rfl
theorem l6s13 : ((List.range 7).all fun j => stepB .any (opsOf Try.f76 11) 105 (91 + j)) = true := by kernel_rfl
theorem l6s14 : ((List.range 7).all fun j => stepB .any (opsOf Try.f76 11) 105 (98 + j)) = true := by kernel_rfl
theorem l6end : (Region.ready .any (opsOf Try.f76 11) (lst 105 105)).isEmpty = true := by kernel_rfl
theorem l6lex : Region.lexB .any (opsOf Try.f76 11) = true := by
  refine lexB_of l6size l6sel (fun k hk => ?_) l6end
  have hq : k / 7 < 15 := by omega
  have hr : k % 7 < 7 := by omega
  have e : k = 7 * (k / 7) + k % 7 := by omega
  generalize k / 7 = q at hq e
  generalize k % 7 = r at hr e
  subst e
  have c : q = 0 ∨ q = 1 ∨ q = 2 ∨ q = 3 ∨ q = 4 ∨ q = 5 ∨ q = 6 ∨ q = 7 ∨ q = 8 ∨ q = 9 ∨ q = 10 ∨ q = 11 ∨ q = 12 ∨ q = 13 ∨ q = 14 := by omega
  rcases c with rfl | rfl | rfl | rfl | rfl | rfl | rfl | rfl | rfl | rfl | rfl | rfl | rfl | rfl | rfl
  · exact List.all_eq_true.1 l6s0 r (List.mem_range.2 hr)
  · exact List.all_eq_true.1 l6s1 r (List.mem_range.2 hr)
  · exact List.all_eq_true.1 l6s2 r (List.mem_range.2 hr)
  · exact List.all_eq_true.1 l6s3 r (List.mem_range.2 hr)
  · exact List.all_eq_true.1 l6s4 r (List.mem_range.2 hr)
  · exact List.all_eq_true.1 l6s5 r (List.mem_range.2 hr)
  · exact List.all_eq_true.1 l6s6 r (List.mem_range.2 hr)
  · exact List.all_eq_true.1 l6s7 r (List.mem_range.2 hr)
  · exact List.all_eq_true.1 l6s8 r (List.mem_range.2 hr)
  · exact List.all_eq_true.1 l6s9 r (List.mem_range.2 hr)
  · exact List.all_eq_true.1 l6s10 r (List.mem_range.2 hr)
  · exact List.all_eq_true.1 l6s11 r (List.mem_range.2 hr)
  · exact List.all_eq_true.1 l6s12 r (List.mem_range.2 hr)
  · exact List.all_eq_true.1 l6s13 r (List.mem_range.2 hr)
  · exact List.all_eq_true.1 l6s14 r (List.mem_range.2 hr)
end Go.Proofs.Ytmbninbecclbiaa.Man

end
section
/- spec.l6Minor: three rows of four; no condition but the rows' lengths and a bound on the minors. -/
namespace Go.Proofs.Ytmbninbecclbiaa.Man
open Go.RowKit Go.Proofs.Ytmbninbecclbiaa.PA Go.Proofs.YtmbninbecclbiaaW.PrintWords Go.Proofs.YtmbninbecclbiaaW.PrintLast Go.Proofs.YtmbninbecclbiaaW.PrintMore
set_option linter.unusedVariables false
set_option linter.unusedSimpArgs false

/-- The places but one. -/
def il (s k : Nat) : List Int := ((List.range k).filter fun j => j != s).map fun j : Nat => (j : Int)
theorem il_next (s k : Nat) : il s (k + 1) = if (k : Int) != (s : Int) then il s k ++ [(k : Int)] else il s k := by
  unfold il
  rw [List.range_succ, List.filter_append, List.map_append]
  by_cases h : k = s
  · subst h; simp
  · rw [if_pos (by simp; omega)]; congr 1; simp [h]
theorem il_len (s k : Nat) : (il s k).length ≤ k := by
  unfold il
  rw [List.length_map]
  exact Nat.le_trans (List.length_filter_le _ _) (by rw [List.length_range]; exact Nat.le_refl _)
def ul (m : Nat → Int) (i : Nat) : List Int := (List.range i).map (vl m)
theorem ul_next (m : Nat → Int) (i : Nat) : ul m (i + 1) = ul m i ++ [vl m i] := by unfold ul; rw [List.range_succ, List.map_append]; rfl
theorem ul_len (m : Nat → Int) (i : Nat) : (ul m i).length = i := by unfold ul; rw [List.length_map, List.length_range]
theorem ml_at {a b c : List Int} (la : a.length = 4) (lb : b.length = 4) (lc : c.length = 4) :
    ml a b c 0 = detW (rd a 1) (rd a 2) (rd a 3) (rd b 1) (rd b 2) (rd b 3) (rd c 1) (rd c 2) (rd c 3) ∧ ml a b c 1 = detW (rd a 0) (rd a 2) (rd a 3) (rd b 0) (rd b 2) (rd b 3) (rd c 0) (rd c 2) (rd c 3) ∧
    ml a b c 2 = detW (rd a 0) (rd a 1) (rd a 3) (rd b 0) (rd b 1) (rd b 3) (rd c 0) (rd c 1) (rd c 3) ∧ ml a b c 3 = detW (rd a 0) (rd a 1) (rd a 2) (rd b 0) (rd b 1) (rd b 2) (rd c 0) (rd c 1) (rd c 2) := by
  match a, la, b, lb, c, lc with
  | [_, _, _, _], _, [_, _, _, _], _, [_, _, _, _], _ => exact ⟨rfl, rfl, rfl, rfl⟩

set_option maxHeartbeats 8000000 in
set_option maxRecDepth 100000 in
theorem l6Minor (w : World) (A0 A1 A2 : Option Addr) (c0 c1 c2 : Nat) (a b c : List Int) (r0 : Kd.C (Kd.int .i64) w A0 a.length a) (r1 : Kd.C (Kd.int .i64) w A1 b.length b) (r2 : Kd.C (Kd.int .i64) w A2 c.length c) (la : a.length = 4) (lb : b.length = 4) (lc : c.length = 4) (hm : ∀ i, i < 4 → -1000 ≤ ml a b c i ∧ ml a b c i ≤ 1000) :
    Calls Try.prog 76 #[.slice A0 a.length c0, .slice A1 b.length c1, .slice A2 c.length c2] w fun e w' => ∃ v, e = .returned v ∧ Kd.R (Kd.int .i64) 3 w' w.heap.size (fun _ => True) v (ul (ml a b c) 4) ∧ Below w.heap.size w w' := by
  obtain ⟨a0, ea, xa0⟩ := Kd.at_int r0 0 (by omega) (by omega)
  obtain ⟨b0, eb, xb0⟩ := Kd.at_int r1 0 (by omega) (by omega)
  obtain ⟨d0, ec, xc0⟩ := Kd.at_int r2 0 (by omega) (by omega)
  subst ea eb ec
  have za0 : w.cell? a0 = some (.int .i64 (rd a 0)) := by obtain ⟨_, e, h⟩ := Kd.at_int r0 0 (by omega) (by omega); cases e; exact h
  have za1 : w.cell? ⟨a0.block, a0.off + 1, none⟩ = some (.int .i64 (rd a 1)) := by obtain ⟨_, e, h⟩ := Kd.at_int r0 1 (by omega) (by omega); cases e; exact h
  have za2 : w.cell? ⟨a0.block, a0.off + 2, none⟩ = some (.int .i64 (rd a 2)) := by obtain ⟨_, e, h⟩ := Kd.at_int r0 2 (by omega) (by omega); cases e; exact h
  have za3 : w.cell? ⟨a0.block, a0.off + 3, none⟩ = some (.int .i64 (rd a 3)) := by obtain ⟨_, e, h⟩ := Kd.at_int r0 3 (by omega) (by omega); cases e; exact h
  have zb0 : w.cell? b0 = some (.int .i64 (rd b 0)) := by obtain ⟨_, e, h⟩ := Kd.at_int r1 0 (by omega) (by omega); cases e; exact h
  have zb1 : w.cell? ⟨b0.block, b0.off + 1, none⟩ = some (.int .i64 (rd b 1)) := by obtain ⟨_, e, h⟩ := Kd.at_int r1 1 (by omega) (by omega); cases e; exact h
  have zb2 : w.cell? ⟨b0.block, b0.off + 2, none⟩ = some (.int .i64 (rd b 2)) := by obtain ⟨_, e, h⟩ := Kd.at_int r1 2 (by omega) (by omega); cases e; exact h
  have zb3 : w.cell? ⟨b0.block, b0.off + 3, none⟩ = some (.int .i64 (rd b 3)) := by obtain ⟨_, e, h⟩ := Kd.at_int r1 3 (by omega) (by omega); cases e; exact h
  have zc0 : w.cell? d0 = some (.int .i64 (rd c 0)) := by obtain ⟨_, e, h⟩ := Kd.at_int r2 0 (by omega) (by omega); cases e; exact h
  have zc1 : w.cell? ⟨d0.block, d0.off + 1, none⟩ = some (.int .i64 (rd c 1)) := by obtain ⟨_, e, h⟩ := Kd.at_int r2 1 (by omega) (by omega); cases e; exact h
  have zc2 : w.cell? ⟨d0.block, d0.off + 2, none⟩ = some (.int .i64 (rd c 2)) := by obtain ⟨_, e, h⟩ := Kd.at_int r2 2 (by omega) (by omega); cases e; exact h
  have zc3 : w.cell? ⟨d0.block, d0.off + 3, none⟩ = some (.int .i64 (rd c 3)) := by obtain ⟨_, e, h⟩ := Kd.at_int r2 3 (by omega) (by omega); cases e; exact h
  have HZ := Aside0.mk (show w.cell? a0 = some (.int .i64 (rd a 0)) ∧ w.cell? ⟨a0.block, a0.off + 1, none⟩ = some (.int .i64 (rd a 1)) ∧ w.cell? ⟨a0.block, a0.off + 2, none⟩ = some (.int .i64 (rd a 2)) ∧ w.cell? ⟨a0.block, a0.off + 3, none⟩ = some (.int .i64 (rd a 3)) ∧ w.cell? b0 = some (.int .i64 (rd b 0)) ∧ w.cell? ⟨b0.block, b0.off + 1, none⟩ = some (.int .i64 (rd b 1)) ∧ w.cell? ⟨b0.block, b0.off + 2, none⟩ = some (.int .i64 (rd b 2)) ∧ w.cell? ⟨b0.block, b0.off + 3, none⟩ = some (.int .i64 (rd b 3)) ∧ w.cell? d0 = some (.int .i64 (rd c 0)) ∧ w.cell? ⟨d0.block, d0.off + 1, none⟩ = some (.int .i64 (rd c 1)) ∧ w.cell? ⟨d0.block, d0.off + 2, none⟩ = some (.int .i64 (rd c 2)) ∧ w.cell? ⟨d0.block, d0.off + 3, none⟩ = some (.int .i64 (rd c 3)) from ⟨za0, za1, za2, za3, zb0, zb1, zb2, zb3, zc0, zc1, zc2, zc3⟩)
  obtain ⟨m, hmd⟩ : ∃ m, m = ml a b c := ⟨_, rfl⟩
  rw [← hmd] at hm ⊢
  have HM := Aside0.mk hm
  have HD := Aside0.mk (show _ ∧ _ ∧ _ ∧ _ from ml_at la lb lc)
  rw [← hmd] at HD
  have HB0 := Aside0.mk (Below.refl w.heap.size w)
  rw [la, lb, lc]
  clear za0 za1 za2 za3 zb0 zb1 zb2 zb3 zc0 zc1 zc2 zc3 xa0 xb0 xc0 r0 r1 r2 hm hmd la lb lc
  go_enter Try.func76, Try.ntmps76
  go_wp2_with (first | ((with_reducible refine gate_dst (N := 12) rfl ?_); refine Kd.R_lit (Kd.int .i64) _ 3 ?hg (N := 12) ?hd (xs := ([] : List Int)) (inner := []) (ok := fun _ => True) (okp := fun _ => True) ?hr ?hp (fun _ hk => hk) trivial (Below.refl _ _) (Nat.le_refl _) (by simp) ?_; (case hd => rfl); (case hg => rfl); (case hr => first | (go_simp; done) | (go_simp; rfl)); (case hp => exact (Reps.none _ _)); intro v12 w12 ho hb hg_ hnew_; clear hg_ hnew_; have RO0 := Aside0.mk (show Kd.R (Kd.int .i64) 3 w12 w.heap.size (fun _ => True) v12 (ul m 0) from ho); have HB12 := Aside0.mk hb; clear ho hb))
  go_loopg [7, 8] 4 (fun kq v7 v8 w' => ∃ (i : Nat) (x : Int), v8 = .int .i64 x ∧ Aside0 (x = (i : Int)) ∧ Aside0 (i + kq = 4) ∧ Aside0 (Kd.R (Kd.int .i64) 3 w' w.heap.size (fun _ => True) v7 (ul m i)) ∧ Aside0 (Below w.heap.size w w'))
  case atStart => exact ⟨0, 0, rfl, ⟨rfl⟩, ⟨rfl⟩, RO0, HB12⟩
  case round =>
    clear RO0 HB12 HB0
    obtain ⟨i, x, rfl, HI, HK, RO, HB⟩ := hrel
    cases gk with
    | zero =>
      have xn : decide (x < 4) = false := decide_eq_false (by have := HI.out; have := HK.out; omega)
      have RO4 := Aside0.mk (show Kd.R (Kd.int .i64) 3 wr w.heap.size (fun _ => True) u7 (ul m 4) by rw [show 4 = i by have := HK.out; omega]; exact RO.out)
      go_wp2
      go_ret
      exact ⟨_, rfl, RO4.out, HB.out⟩
    | succ k1 =>
      have hi : i = 0 ∨ i = 1 ∨ i = 2 ∨ i = 3 := by have := HK.out; omega
      rcases hi with rfl | rfl | rfl | rfl
      · skip
        obtain rfl : x = 0 := HI.out
        have HM1 := Aside0.mk (HM.out 0 (by omega))
        have M0 := Aside0.mk (Nat.le_refl wr.heap.size)
        have ROo := Aside0.mk (show Kd.R (Kd.int .i64) 3 wr w.heap.size (fun k_ => k_ < wr.heap.size) u7 (ul m 0) from Kd.R_mono (Kd.R_bound RO.out) (fun _ hk => hk.2.2.1))
        generalize hWM : wr.heap.size = WM at ROo M0
        go_wp2_with (first | ((with_reducible refine gate_dst (N := 17) rfl ?_); refine Kd.R_lit (Kd.int .i64) _ 3 ?hg (N := 17) ?hd (xs := ([] : List Int)) (inner := []) (ok := fun _ => True) (okp := fun _ => True) ?hr ?hp (fun _ hk => hk) trivial (Below.refl _ _) (Nat.le_refl _) (by simp) ?_; (case hd => rfl); (case hg => rfl); (case hr => first | (go_simp; done) | (go_simp; rfl)); (case hp => exact (Reps.none _ _)); intro v17 w17 ho hb hg_ hnew_; clear hg_ hnew_; have RI0 := Aside0.mk (show Kd.R (Kd.int .i64) 3 w17 WM (fun _ => True) v17 (il 0 0) from hWM ▸ ho); have RO17 := Aside0.mk (Kd.R_below ROo.out hb); have HB17 := Aside0.mk (below_step HB.out hb); have HG17 := Aside0.mk (show WM ≤ w17.heap.size by have := below_size hb; omega); clear ho hb))
        have HWM := Aside0.mk (show w.heap.size ≤ WM by have := below_size HB.out; omega)
        go_loopg [9, 10] 4 (fun kq v9 v10 w' => ∃ (k : Nat) (y : Int), v10 = .int .i64 y ∧ Aside0 (y = (k : Int)) ∧ Aside0 (k + kq = 4) ∧ Aside0 (Kd.R (Kd.int .i64) 3 w' WM (fun _ => True) v9 (il 0 k)) ∧ Aside0 (Kd.R (Kd.int .i64) 3 w' w.heap.size (fun k_ => k_ < WM) u7 (ul m 0)) ∧ Aside0 (Below w.heap.size w w') ∧ Aside0 (WM ≤ w'.heap.size))
        case atStart => exact ⟨0, 0, rfl, ⟨rfl⟩, ⟨rfl⟩, RI0, RO17, HB17, HG17⟩
        case round =>
          clear RI0 RO17 HB17 HB RO ROo hWM M0 HG17
          obtain ⟨k, y, rfl, HY, HKk, RI, RO, HB, HG⟩ := hrel
          cases gk with
          | zero =>
            have yn : decide (y < 4) = false := decide_eq_false (by have := HY.out; have := HKk.out; omega)
            have RI4 := Aside0.mk (show Kd.R (Kd.int .i64) 3 wr WM (fun _ => True) u9 [1, 2, 3] by have e : k = 4 := (by have := HKk.out; omega); rw [e] at RI; exact RI.out)
            obtain ⟨gI, cI, rfl, _, _, _⟩ := Kd.R_form RI4.out (by decide)
            obtain ⟨i0, i1, i2⟩ := cells3 RI4.out
            rw [show rd [1, 2, 3] 0 = 1 from rfl] at i0
            rw [show rd [1, 2, 3] 1 = 2 from rfl] at i1
            rw [show rd [1, 2, 3] 2 = 3 from rfl] at i2
            obtain ⟨ya0, ya1, ya2, ya3, yb0, yb1, yb2, yb3, yc0, yc1, yc2, yc3⟩ := HZ.out
            replace ya0 := (HB.out.cell (World.block_lt_of_cell? w _ ya0)).trans ya0
            replace ya1 := (HB.out.cell (World.block_lt_of_cell? w _ ya1)).trans ya1
            replace ya2 := (HB.out.cell (World.block_lt_of_cell? w _ ya2)).trans ya2
            replace ya3 := (HB.out.cell (World.block_lt_of_cell? w _ ya3)).trans ya3
            replace yb0 := (HB.out.cell (World.block_lt_of_cell? w _ yb0)).trans yb0
            replace yb1 := (HB.out.cell (World.block_lt_of_cell? w _ yb1)).trans yb1
            replace yb2 := (HB.out.cell (World.block_lt_of_cell? w _ yb2)).trans yb2
            replace yb3 := (HB.out.cell (World.block_lt_of_cell? w _ yb3)).trans yb3
            replace yc0 := (HB.out.cell (World.block_lt_of_cell? w _ yc0)).trans yc0
            replace yc1 := (HB.out.cell (World.block_lt_of_cell? w _ yc1)).trans yc1
            replace yc2 := (HB.out.cell (World.block_lt_of_cell? w _ yc2)).trans yc2
            replace yc3 := (HB.out.cell (World.block_lt_of_cell? w _ yc3)).trans yc3
            go_upto_region 11 with (fail)
            dsimp only [List.append]
            refine wp_region_quiet_lit (by kernel_rfl) (lex_cast (by kernel_rfl) l6lex) ?_
            repeat (go_big_quiet_step (fail))
            refine wpQuiet_nil ?_
            intro _ hw'
            obtain ⟨nq, hw''⟩ := hw'
            subst hw''
            obtain ⟨D, hD⟩ : ∃ D, D = wrap64 (wrap64 (wrap64 (rd a 1 * wrap64 (wrap64 (rd b 2 * rd c 3) - wrap64 (rd b 3 * rd c 2))) - wrap64 (rd a 2 * wrap64 (wrap64 (rd b 1 * rd c 3) - wrap64 (rd b 3 * rd c 1)))) + wrap64 (rd a 3 * wrap64 (wrap64 (rd b 1 * rd c 2) - wrap64 (rd b 2 * rd c 1)))) := ⟨_, rfl⟩
            rw [← hD]
            have HDm := Aside0.mk (show D = m 0 by rw [hD]; exact HD.out.1.symm)
            clear hD ya0 ya1 ya2 ya3 yb0 yb1 yb2 yb3 yc0 yc1 yc2 yc3 i0 i1 i2
            have HVn := Aside0.mk (show D = vl m 0 by have := HM1.out; rw [HDm.out]; show _ = sg 0 * m 0; unfold sg; simp)
            have RO5 := Aside0.mk (Kd.R_mono (Kd.R_drewN RO.out nq) (fun _ _ => trivial) : Kd.R (Kd.int .i64) 3 (wr.drewN nq) w.heap.size (fun _ => True) u7 (ul m 0))
            have HB5 := Aside0.mk (pw_below_drewN HB.out nq)
            clear RO HB
            generalize wr.drewN nq = W5 at RO5 HB5 ⊢
            go_wp2_with (first | ((with_reducible refine gate_builtin (b := .append) (xs := #[.tmp 138, .tmp 140]) rfl ?_); at_builtin; (refine Kd.R_append (Kd.int .i64) (w0 := w) w.heap.size rfl (.tmp 138) (.tmp 140) 35 3 (.int .i64 0) 8 rfl Try.underlying35 info3 rfl (by decide) (by omega) _ (ul m 0) (D) [.int .i64 (D)] (fun _ => True) (fun _ => False) rfl (by first | rfl | (go_simp; done) | (go_simp; rfl)) ?aP (fun _ hk => hk.elim) (fun _ _ => trivial) ?aO ?aB ?aS ?aL ?_; (case aP => exact rfl); (case aO => exact RO5.out); (case aB => exact HB5.out); (case aS => exact below_size HB5.out); (case aL => rw [ul_len]; omega); intro v141 w141 ho hb hg hat; rw [HVn.out, ← ul_next] at ho; have RO6 := Aside0.mk ho; have HB6 := Aside0.mk hb; clear ho hb hg hat)))
            go_roundg k1
            case measure => have := HK.out; omega
            case rel => exact ⟨1, 1, rfl, ⟨rfl⟩, ⟨by have := HK.out; omega⟩, RO6, HB6⟩
          | succ k2 =>
            have y0 : 0 ≤ y := by have := HY.out; omega
            have y4 : y < 4 := by have := HY.out; have := HKk.out; omega
            have yn : decide (y < 4) = true := decide_eq_true y4
            have HY1 := Aside0.mk (show y + 1 = ((k + 1 : Nat) : Int) by have := HY.out; omega)
            have hLI := Aside0.mk (il_len 0 k)
            have hnx := il_next 0 k
            rw [← HY.out] at hnx
            by_cases hy : y = 0
            · have hys : (y != 0) = false := by rw [hy]; rfl
              have HNX := Aside0.mk (show il 0 (k + 1) = il 0 k by rw [hnx, if_neg (by rw [show (((0 : Nat) : Int)) = (0 : Int) from rfl, hys]; decide)])
              clear hy hnx
              go_wp2
              go_roundg k2
              case measure => have := HKk.out; omega
              case rel => exact ⟨k + 1, y + 1, rfl, HY1, ⟨by have := HKk.out; omega⟩, by rw [HNX.out]; exact RI, RO, HB, HG⟩
            · have hys : (y != 0) = true := bne_iff_ne.2 hy
              have HNX := Aside0.mk (show il 0 (k + 1) = il 0 k ++ [y] by rw [hnx, if_pos (by rw [show (((0 : Nat) : Int)) = (0 : Int) from rfl, hys])])
              clear hy hnx
              go_wp2_with (first | ((with_reducible refine gate_builtin (b := .append) (xs := #[.tmp 25, .tmp 27]) rfl ?_); at_builtin; refine Kd.R_append (Kd.int .i64) (w0 := wr) WM rfl (.tmp 25) (.tmp 27) 35 3 (.int .i64 0) 8 rfl Try.underlying35 info3 rfl (by decide) (by omega) _ (il 0 k) y [.int .i64 y] (fun _ => True) (fun _ => False) rfl (by first | rfl | (go_simp; done) | (go_simp; rfl)) ?aP (fun _ hk => hk.elim) (fun _ _ => trivial) ?aO ?aB ?aS ?aL ?_; (case aP => exact rfl); (case aO => exact RI.out); (case aB => exact Below.refl _ _); (case aS => exact HG.out); (case aL => have := hLI.out; have := HKk.out; omega); intro v28 w28 ho hb hg hat; rw [← HNX.out] at ho; have RI6 := Aside0.mk ho; have RO6 := Aside0.mk (Kd.R_grown RO.out hg (fun k_ hk_ e_ => by have := Kd.R_base RI.out k_ e_.symm; omega)); have HG6 := Aside0.mk (Nat.le_trans HG.out hb.size); have HB6 := Aside0.mk (show Below w.heap.size w w28 from ⟨hb.os.trans HB.out.os, hb.tape.trans HB.out.tape, hb.output.trans HB.out.output, Nat.le_trans HB.out.size hb.size, fun k_ hk_ => (hb.block k_ (by have := HWM.out; omega)).trans (HB.out.block k_ hk_)⟩); clear ho hb hg hat))
              go_roundg k2
              case measure => have := HKk.out; omega
              case rel => exact ⟨k + 1, y + 1, rfl, HY1, ⟨by have := HKk.out; omega⟩, RI6, RO6, HB6, HG6⟩
      · skip
        obtain rfl : x = 1 := HI.out
        have HM1 := Aside0.mk (HM.out 1 (by omega))
        have M0 := Aside0.mk (Nat.le_refl wr.heap.size)
        have ROo := Aside0.mk (show Kd.R (Kd.int .i64) 3 wr w.heap.size (fun k_ => k_ < wr.heap.size) u7 (ul m 1) from Kd.R_mono (Kd.R_bound RO.out) (fun _ hk => hk.2.2.1))
        generalize hWM : wr.heap.size = WM at ROo M0
        go_wp2_with (first | ((with_reducible refine gate_dst (N := 17) rfl ?_); refine Kd.R_lit (Kd.int .i64) _ 3 ?hg (N := 17) ?hd (xs := ([] : List Int)) (inner := []) (ok := fun _ => True) (okp := fun _ => True) ?hr ?hp (fun _ hk => hk) trivial (Below.refl _ _) (Nat.le_refl _) (by simp) ?_; (case hd => rfl); (case hg => rfl); (case hr => first | (go_simp; done) | (go_simp; rfl)); (case hp => exact (Reps.none _ _)); intro v17 w17 ho hb hg_ hnew_; clear hg_ hnew_; have RI0 := Aside0.mk (show Kd.R (Kd.int .i64) 3 w17 WM (fun _ => True) v17 (il 1 0) from hWM ▸ ho); have RO17 := Aside0.mk (Kd.R_below ROo.out hb); have HB17 := Aside0.mk (below_step HB.out hb); have HG17 := Aside0.mk (show WM ≤ w17.heap.size by have := below_size hb; omega); clear ho hb))
        have HWM := Aside0.mk (show w.heap.size ≤ WM by have := below_size HB.out; omega)
        go_loopg [9, 10] 4 (fun kq v9 v10 w' => ∃ (k : Nat) (y : Int), v10 = .int .i64 y ∧ Aside0 (y = (k : Int)) ∧ Aside0 (k + kq = 4) ∧ Aside0 (Kd.R (Kd.int .i64) 3 w' WM (fun _ => True) v9 (il 1 k)) ∧ Aside0 (Kd.R (Kd.int .i64) 3 w' w.heap.size (fun k_ => k_ < WM) u7 (ul m 1)) ∧ Aside0 (Below w.heap.size w w') ∧ Aside0 (WM ≤ w'.heap.size))
        case atStart => exact ⟨0, 0, rfl, ⟨rfl⟩, ⟨rfl⟩, RI0, RO17, HB17, HG17⟩
        case round =>
          clear RI0 RO17 HB17 HB RO ROo hWM M0 HG17
          obtain ⟨k, y, rfl, HY, HKk, RI, RO, HB, HG⟩ := hrel
          cases gk with
          | zero =>
            have yn : decide (y < 4) = false := decide_eq_false (by have := HY.out; have := HKk.out; omega)
            have RI4 := Aside0.mk (show Kd.R (Kd.int .i64) 3 wr WM (fun _ => True) u9 [0, 2, 3] by have e : k = 4 := (by have := HKk.out; omega); rw [e] at RI; exact RI.out)
            obtain ⟨gI, cI, rfl, _, _, _⟩ := Kd.R_form RI4.out (by decide)
            obtain ⟨i0, i1, i2⟩ := cells3 RI4.out
            rw [show rd [0, 2, 3] 0 = 0 from rfl] at i0
            rw [show rd [0, 2, 3] 1 = 2 from rfl] at i1
            rw [show rd [0, 2, 3] 2 = 3 from rfl] at i2
            obtain ⟨ya0, ya1, ya2, ya3, yb0, yb1, yb2, yb3, yc0, yc1, yc2, yc3⟩ := HZ.out
            replace ya0 := (HB.out.cell (World.block_lt_of_cell? w _ ya0)).trans ya0
            replace ya1 := (HB.out.cell (World.block_lt_of_cell? w _ ya1)).trans ya1
            replace ya2 := (HB.out.cell (World.block_lt_of_cell? w _ ya2)).trans ya2
            replace ya3 := (HB.out.cell (World.block_lt_of_cell? w _ ya3)).trans ya3
            replace yb0 := (HB.out.cell (World.block_lt_of_cell? w _ yb0)).trans yb0
            replace yb1 := (HB.out.cell (World.block_lt_of_cell? w _ yb1)).trans yb1
            replace yb2 := (HB.out.cell (World.block_lt_of_cell? w _ yb2)).trans yb2
            replace yb3 := (HB.out.cell (World.block_lt_of_cell? w _ yb3)).trans yb3
            replace yc0 := (HB.out.cell (World.block_lt_of_cell? w _ yc0)).trans yc0
            replace yc1 := (HB.out.cell (World.block_lt_of_cell? w _ yc1)).trans yc1
            replace yc2 := (HB.out.cell (World.block_lt_of_cell? w _ yc2)).trans yc2
            replace yc3 := (HB.out.cell (World.block_lt_of_cell? w _ yc3)).trans yc3
            go_upto_region 11 with (fail)
            dsimp only [List.append]
            refine wp_region_quiet_lit (by kernel_rfl) (lex_cast (by kernel_rfl) l6lex) ?_
            repeat (go_big_quiet_step (fail))
            refine wpQuiet_nil ?_
            intro _ hw'
            obtain ⟨nq, hw''⟩ := hw'
            subst hw''
            obtain ⟨D, hD⟩ : ∃ D, D = wrap64 (wrap64 (wrap64 (rd a 0 * wrap64 (wrap64 (rd b 2 * rd c 3) - wrap64 (rd b 3 * rd c 2))) - wrap64 (rd a 2 * wrap64 (wrap64 (rd b 0 * rd c 3) - wrap64 (rd b 3 * rd c 0)))) + wrap64 (rd a 3 * wrap64 (wrap64 (rd b 0 * rd c 2) - wrap64 (rd b 2 * rd c 0)))) := ⟨_, rfl⟩
            rw [← hD]
            have HDm := Aside0.mk (show D = m 1 by rw [hD]; exact HD.out.2.1.symm)
            clear hD ya0 ya1 ya2 ya3 yb0 yb1 yb2 yb3 yc0 yc1 yc2 yc3 i0 i1 i2
            have HVn := Aside0.mk (show wrap64 (-D) = vl m 1 by have := HM1.out; rw [HDm.out]; show _ = sg 1 * m 1; unfold sg wrap64; simp; omega)
            have RO5 := Aside0.mk (Kd.R_mono (Kd.R_drewN RO.out nq) (fun _ _ => trivial) : Kd.R (Kd.int .i64) 3 (wr.drewN nq) w.heap.size (fun _ => True) u7 (ul m 1))
            have HB5 := Aside0.mk (pw_below_drewN HB.out nq)
            clear RO HB
            generalize wr.drewN nq = W5 at RO5 HB5 ⊢
            go_wp2_with (first | ((with_reducible refine gate_builtin (b := .append) (xs := #[.tmp 138, .tmp 140]) rfl ?_); at_builtin; (refine Kd.R_append (Kd.int .i64) (w0 := w) w.heap.size rfl (.tmp 138) (.tmp 140) 35 3 (.int .i64 0) 8 rfl Try.underlying35 info3 rfl (by decide) (by omega) _ (ul m 1) (wrap64 (-D)) [.int .i64 (wrap64 (-D))] (fun _ => True) (fun _ => False) rfl (by first | rfl | (go_simp; done) | (go_simp; rfl)) ?aP (fun _ hk => hk.elim) (fun _ _ => trivial) ?aO ?aB ?aS ?aL ?_; (case aP => exact rfl); (case aO => exact RO5.out); (case aB => exact HB5.out); (case aS => exact below_size HB5.out); (case aL => rw [ul_len]; omega); intro v141 w141 ho hb hg hat; rw [HVn.out, ← ul_next] at ho; have RO6 := Aside0.mk ho; have HB6 := Aside0.mk hb; clear ho hb hg hat)))
            go_roundg k1
            case measure => have := HK.out; omega
            case rel => exact ⟨2, 2, rfl, ⟨rfl⟩, ⟨by have := HK.out; omega⟩, RO6, HB6⟩
          | succ k2 =>
            have y0 : 0 ≤ y := by have := HY.out; omega
            have y4 : y < 4 := by have := HY.out; have := HKk.out; omega
            have yn : decide (y < 4) = true := decide_eq_true y4
            have HY1 := Aside0.mk (show y + 1 = ((k + 1 : Nat) : Int) by have := HY.out; omega)
            have hLI := Aside0.mk (il_len 1 k)
            have hnx := il_next 1 k
            rw [← HY.out] at hnx
            by_cases hy : y = 1
            · have hys : (y != 1) = false := by rw [hy]; rfl
              have HNX := Aside0.mk (show il 1 (k + 1) = il 1 k by rw [hnx, if_neg (by rw [show (((1 : Nat) : Int)) = (1 : Int) from rfl, hys]; decide)])
              clear hy hnx
              go_wp2
              go_roundg k2
              case measure => have := HKk.out; omega
              case rel => exact ⟨k + 1, y + 1, rfl, HY1, ⟨by have := HKk.out; omega⟩, by rw [HNX.out]; exact RI, RO, HB, HG⟩
            · have hys : (y != 1) = true := bne_iff_ne.2 hy
              have HNX := Aside0.mk (show il 1 (k + 1) = il 1 k ++ [y] by rw [hnx, if_pos (by rw [show (((1 : Nat) : Int)) = (1 : Int) from rfl, hys])])
              clear hy hnx
              go_wp2_with (first | ((with_reducible refine gate_builtin (b := .append) (xs := #[.tmp 25, .tmp 27]) rfl ?_); at_builtin; refine Kd.R_append (Kd.int .i64) (w0 := wr) WM rfl (.tmp 25) (.tmp 27) 35 3 (.int .i64 0) 8 rfl Try.underlying35 info3 rfl (by decide) (by omega) _ (il 1 k) y [.int .i64 y] (fun _ => True) (fun _ => False) rfl (by first | rfl | (go_simp; done) | (go_simp; rfl)) ?aP (fun _ hk => hk.elim) (fun _ _ => trivial) ?aO ?aB ?aS ?aL ?_; (case aP => exact rfl); (case aO => exact RI.out); (case aB => exact Below.refl _ _); (case aS => exact HG.out); (case aL => have := hLI.out; have := HKk.out; omega); intro v28 w28 ho hb hg hat; rw [← HNX.out] at ho; have RI6 := Aside0.mk ho; have RO6 := Aside0.mk (Kd.R_grown RO.out hg (fun k_ hk_ e_ => by have := Kd.R_base RI.out k_ e_.symm; omega)); have HG6 := Aside0.mk (Nat.le_trans HG.out hb.size); have HB6 := Aside0.mk (show Below w.heap.size w w28 from ⟨hb.os.trans HB.out.os, hb.tape.trans HB.out.tape, hb.output.trans HB.out.output, Nat.le_trans HB.out.size hb.size, fun k_ hk_ => (hb.block k_ (by have := HWM.out; omega)).trans (HB.out.block k_ hk_)⟩); clear ho hb hg hat))
              go_roundg k2
              case measure => have := HKk.out; omega
              case rel => exact ⟨k + 1, y + 1, rfl, HY1, ⟨by have := HKk.out; omega⟩, RI6, RO6, HB6, HG6⟩
      · skip
        obtain rfl : x = 2 := HI.out
        have HM1 := Aside0.mk (HM.out 2 (by omega))
        have M0 := Aside0.mk (Nat.le_refl wr.heap.size)
        have ROo := Aside0.mk (show Kd.R (Kd.int .i64) 3 wr w.heap.size (fun k_ => k_ < wr.heap.size) u7 (ul m 2) from Kd.R_mono (Kd.R_bound RO.out) (fun _ hk => hk.2.2.1))
        generalize hWM : wr.heap.size = WM at ROo M0
        go_wp2_with (first | ((with_reducible refine gate_dst (N := 17) rfl ?_); refine Kd.R_lit (Kd.int .i64) _ 3 ?hg (N := 17) ?hd (xs := ([] : List Int)) (inner := []) (ok := fun _ => True) (okp := fun _ => True) ?hr ?hp (fun _ hk => hk) trivial (Below.refl _ _) (Nat.le_refl _) (by simp) ?_; (case hd => rfl); (case hg => rfl); (case hr => first | (go_simp; done) | (go_simp; rfl)); (case hp => exact (Reps.none _ _)); intro v17 w17 ho hb hg_ hnew_; clear hg_ hnew_; have RI0 := Aside0.mk (show Kd.R (Kd.int .i64) 3 w17 WM (fun _ => True) v17 (il 2 0) from hWM ▸ ho); have RO17 := Aside0.mk (Kd.R_below ROo.out hb); have HB17 := Aside0.mk (below_step HB.out hb); have HG17 := Aside0.mk (show WM ≤ w17.heap.size by have := below_size hb; omega); clear ho hb))
        have HWM := Aside0.mk (show w.heap.size ≤ WM by have := below_size HB.out; omega)
        go_loopg [9, 10] 4 (fun kq v9 v10 w' => ∃ (k : Nat) (y : Int), v10 = .int .i64 y ∧ Aside0 (y = (k : Int)) ∧ Aside0 (k + kq = 4) ∧ Aside0 (Kd.R (Kd.int .i64) 3 w' WM (fun _ => True) v9 (il 2 k)) ∧ Aside0 (Kd.R (Kd.int .i64) 3 w' w.heap.size (fun k_ => k_ < WM) u7 (ul m 2)) ∧ Aside0 (Below w.heap.size w w') ∧ Aside0 (WM ≤ w'.heap.size))
        case atStart => exact ⟨0, 0, rfl, ⟨rfl⟩, ⟨rfl⟩, RI0, RO17, HB17, HG17⟩
        case round =>
          clear RI0 RO17 HB17 HB RO ROo hWM M0 HG17
          obtain ⟨k, y, rfl, HY, HKk, RI, RO, HB, HG⟩ := hrel
          cases gk with
          | zero =>
            have yn : decide (y < 4) = false := decide_eq_false (by have := HY.out; have := HKk.out; omega)
            have RI4 := Aside0.mk (show Kd.R (Kd.int .i64) 3 wr WM (fun _ => True) u9 [0, 1, 3] by have e : k = 4 := (by have := HKk.out; omega); rw [e] at RI; exact RI.out)
            obtain ⟨gI, cI, rfl, _, _, _⟩ := Kd.R_form RI4.out (by decide)
            obtain ⟨i0, i1, i2⟩ := cells3 RI4.out
            rw [show rd [0, 1, 3] 0 = 0 from rfl] at i0
            rw [show rd [0, 1, 3] 1 = 1 from rfl] at i1
            rw [show rd [0, 1, 3] 2 = 3 from rfl] at i2
            obtain ⟨ya0, ya1, ya2, ya3, yb0, yb1, yb2, yb3, yc0, yc1, yc2, yc3⟩ := HZ.out
            replace ya0 := (HB.out.cell (World.block_lt_of_cell? w _ ya0)).trans ya0
            replace ya1 := (HB.out.cell (World.block_lt_of_cell? w _ ya1)).trans ya1
            replace ya2 := (HB.out.cell (World.block_lt_of_cell? w _ ya2)).trans ya2
            replace ya3 := (HB.out.cell (World.block_lt_of_cell? w _ ya3)).trans ya3
            replace yb0 := (HB.out.cell (World.block_lt_of_cell? w _ yb0)).trans yb0
            replace yb1 := (HB.out.cell (World.block_lt_of_cell? w _ yb1)).trans yb1
            replace yb2 := (HB.out.cell (World.block_lt_of_cell? w _ yb2)).trans yb2
            replace yb3 := (HB.out.cell (World.block_lt_of_cell? w _ yb3)).trans yb3
            replace yc0 := (HB.out.cell (World.block_lt_of_cell? w _ yc0)).trans yc0
            replace yc1 := (HB.out.cell (World.block_lt_of_cell? w _ yc1)).trans yc1
            replace yc2 := (HB.out.cell (World.block_lt_of_cell? w _ yc2)).trans yc2
            replace yc3 := (HB.out.cell (World.block_lt_of_cell? w _ yc3)).trans yc3
            go_upto_region 11 with (fail)
            dsimp only [List.append]
            refine wp_region_quiet_lit (by kernel_rfl) (lex_cast (by kernel_rfl) l6lex) ?_
            repeat (go_big_quiet_step (fail))
            refine wpQuiet_nil ?_
            intro _ hw'
            obtain ⟨nq, hw''⟩ := hw'
            subst hw''
            obtain ⟨D, hD⟩ : ∃ D, D = wrap64 (wrap64 (wrap64 (rd a 0 * wrap64 (wrap64 (rd b 1 * rd c 3) - wrap64 (rd b 3 * rd c 1))) - wrap64 (rd a 1 * wrap64 (wrap64 (rd b 0 * rd c 3) - wrap64 (rd b 3 * rd c 0)))) + wrap64 (rd a 3 * wrap64 (wrap64 (rd b 0 * rd c 1) - wrap64 (rd b 1 * rd c 0)))) := ⟨_, rfl⟩
            rw [← hD]
            have HDm := Aside0.mk (show D = m 2 by rw [hD]; exact HD.out.2.2.1.symm)
            clear hD ya0 ya1 ya2 ya3 yb0 yb1 yb2 yb3 yc0 yc1 yc2 yc3 i0 i1 i2
            have HVn := Aside0.mk (show D = vl m 2 by have := HM1.out; rw [HDm.out]; show _ = sg 2 * m 2; unfold sg; simp)
            have RO5 := Aside0.mk (Kd.R_mono (Kd.R_drewN RO.out nq) (fun _ _ => trivial) : Kd.R (Kd.int .i64) 3 (wr.drewN nq) w.heap.size (fun _ => True) u7 (ul m 2))
            have HB5 := Aside0.mk (pw_below_drewN HB.out nq)
            clear RO HB
            generalize wr.drewN nq = W5 at RO5 HB5 ⊢
            go_wp2_with (first | ((with_reducible refine gate_builtin (b := .append) (xs := #[.tmp 138, .tmp 140]) rfl ?_); at_builtin; (refine Kd.R_append (Kd.int .i64) (w0 := w) w.heap.size rfl (.tmp 138) (.tmp 140) 35 3 (.int .i64 0) 8 rfl Try.underlying35 info3 rfl (by decide) (by omega) _ (ul m 2) (D) [.int .i64 (D)] (fun _ => True) (fun _ => False) rfl (by first | rfl | (go_simp; done) | (go_simp; rfl)) ?aP (fun _ hk => hk.elim) (fun _ _ => trivial) ?aO ?aB ?aS ?aL ?_; (case aP => exact rfl); (case aO => exact RO5.out); (case aB => exact HB5.out); (case aS => exact below_size HB5.out); (case aL => rw [ul_len]; omega); intro v141 w141 ho hb hg hat; rw [HVn.out, ← ul_next] at ho; have RO6 := Aside0.mk ho; have HB6 := Aside0.mk hb; clear ho hb hg hat)))
            go_roundg k1
            case measure => have := HK.out; omega
            case rel => exact ⟨3, 3, rfl, ⟨rfl⟩, ⟨by have := HK.out; omega⟩, RO6, HB6⟩
          | succ k2 =>
            have y0 : 0 ≤ y := by have := HY.out; omega
            have y4 : y < 4 := by have := HY.out; have := HKk.out; omega
            have yn : decide (y < 4) = true := decide_eq_true y4
            have HY1 := Aside0.mk (show y + 1 = ((k + 1 : Nat) : Int) by have := HY.out; omega)
            have hLI := Aside0.mk (il_len 2 k)
            have hnx := il_next 2 k
            rw [← HY.out] at hnx
            by_cases hy : y = 2
            · have hys : (y != 2) = false := by rw [hy]; rfl
              have HNX := Aside0.mk (show il 2 (k + 1) = il 2 k by rw [hnx, if_neg (by rw [show (((2 : Nat) : Int)) = (2 : Int) from rfl, hys]; decide)])
              clear hy hnx
              go_wp2
              go_roundg k2
              case measure => have := HKk.out; omega
              case rel => exact ⟨k + 1, y + 1, rfl, HY1, ⟨by have := HKk.out; omega⟩, by rw [HNX.out]; exact RI, RO, HB, HG⟩
            · have hys : (y != 2) = true := bne_iff_ne.2 hy
              have HNX := Aside0.mk (show il 2 (k + 1) = il 2 k ++ [y] by rw [hnx, if_pos (by rw [show (((2 : Nat) : Int)) = (2 : Int) from rfl, hys])])
              clear hy hnx
              go_wp2_with (first | ((with_reducible refine gate_builtin (b := .append) (xs := #[.tmp 25, .tmp 27]) rfl ?_); at_builtin; refine Kd.R_append (Kd.int .i64) (w0 := wr) WM rfl (.tmp 25) (.tmp 27) 35 3 (.int .i64 0) 8 rfl Try.underlying35 info3 rfl (by decide) (by omega) _ (il 2 k) y [.int .i64 y] (fun _ => True) (fun _ => False) rfl (by first | rfl | (go_simp; done) | (go_simp; rfl)) ?aP (fun _ hk => hk.elim) (fun _ _ => trivial) ?aO ?aB ?aS ?aL ?_; (case aP => exact rfl); (case aO => exact RI.out); (case aB => exact Below.refl _ _); (case aS => exact HG.out); (case aL => have := hLI.out; have := HKk.out; omega); intro v28 w28 ho hb hg hat; rw [← HNX.out] at ho; have RI6 := Aside0.mk ho; have RO6 := Aside0.mk (Kd.R_grown RO.out hg (fun k_ hk_ e_ => by have := Kd.R_base RI.out k_ e_.symm; omega)); have HG6 := Aside0.mk (Nat.le_trans HG.out hb.size); have HB6 := Aside0.mk (show Below w.heap.size w w28 from ⟨hb.os.trans HB.out.os, hb.tape.trans HB.out.tape, hb.output.trans HB.out.output, Nat.le_trans HB.out.size hb.size, fun k_ hk_ => (hb.block k_ (by have := HWM.out; omega)).trans (HB.out.block k_ hk_)⟩); clear ho hb hg hat))
              go_roundg k2
              case measure => have := HKk.out; omega
              case rel => exact ⟨k + 1, y + 1, rfl, HY1, ⟨by have := HKk.out; omega⟩, RI6, RO6, HB6, HG6⟩
      · skip
        obtain rfl : x = 3 := HI.out
        have HM1 := Aside0.mk (HM.out 3 (by omega))
        have M0 := Aside0.mk (Nat.le_refl wr.heap.size)
        have ROo := Aside0.mk (show Kd.R (Kd.int .i64) 3 wr w.heap.size (fun k_ => k_ < wr.heap.size) u7 (ul m 3) from Kd.R_mono (Kd.R_bound RO.out) (fun _ hk => hk.2.2.1))
        generalize hWM : wr.heap.size = WM at ROo M0
        go_wp2_with (first | ((with_reducible refine gate_dst (N := 17) rfl ?_); refine Kd.R_lit (Kd.int .i64) _ 3 ?hg (N := 17) ?hd (xs := ([] : List Int)) (inner := []) (ok := fun _ => True) (okp := fun _ => True) ?hr ?hp (fun _ hk => hk) trivial (Below.refl _ _) (Nat.le_refl _) (by simp) ?_; (case hd => rfl); (case hg => rfl); (case hr => first | (go_simp; done) | (go_simp; rfl)); (case hp => exact (Reps.none _ _)); intro v17 w17 ho hb hg_ hnew_; clear hg_ hnew_; have RI0 := Aside0.mk (show Kd.R (Kd.int .i64) 3 w17 WM (fun _ => True) v17 (il 3 0) from hWM ▸ ho); have RO17 := Aside0.mk (Kd.R_below ROo.out hb); have HB17 := Aside0.mk (below_step HB.out hb); have HG17 := Aside0.mk (show WM ≤ w17.heap.size by have := below_size hb; omega); clear ho hb))
        have HWM := Aside0.mk (show w.heap.size ≤ WM by have := below_size HB.out; omega)
        go_loopg [9, 10] 4 (fun kq v9 v10 w' => ∃ (k : Nat) (y : Int), v10 = .int .i64 y ∧ Aside0 (y = (k : Int)) ∧ Aside0 (k + kq = 4) ∧ Aside0 (Kd.R (Kd.int .i64) 3 w' WM (fun _ => True) v9 (il 3 k)) ∧ Aside0 (Kd.R (Kd.int .i64) 3 w' w.heap.size (fun k_ => k_ < WM) u7 (ul m 3)) ∧ Aside0 (Below w.heap.size w w') ∧ Aside0 (WM ≤ w'.heap.size))
        case atStart => exact ⟨0, 0, rfl, ⟨rfl⟩, ⟨rfl⟩, RI0, RO17, HB17, HG17⟩
        case round =>
          clear RI0 RO17 HB17 HB RO ROo hWM M0 HG17
          obtain ⟨k, y, rfl, HY, HKk, RI, RO, HB, HG⟩ := hrel
          cases gk with
          | zero =>
            have yn : decide (y < 4) = false := decide_eq_false (by have := HY.out; have := HKk.out; omega)
            have RI4 := Aside0.mk (show Kd.R (Kd.int .i64) 3 wr WM (fun _ => True) u9 [0, 1, 2] by have e : k = 4 := (by have := HKk.out; omega); rw [e] at RI; exact RI.out)
            obtain ⟨gI, cI, rfl, _, _, _⟩ := Kd.R_form RI4.out (by decide)
            obtain ⟨i0, i1, i2⟩ := cells3 RI4.out
            rw [show rd [0, 1, 2] 0 = 0 from rfl] at i0
            rw [show rd [0, 1, 2] 1 = 1 from rfl] at i1
            rw [show rd [0, 1, 2] 2 = 2 from rfl] at i2
            obtain ⟨ya0, ya1, ya2, ya3, yb0, yb1, yb2, yb3, yc0, yc1, yc2, yc3⟩ := HZ.out
            replace ya0 := (HB.out.cell (World.block_lt_of_cell? w _ ya0)).trans ya0
            replace ya1 := (HB.out.cell (World.block_lt_of_cell? w _ ya1)).trans ya1
            replace ya2 := (HB.out.cell (World.block_lt_of_cell? w _ ya2)).trans ya2
            replace ya3 := (HB.out.cell (World.block_lt_of_cell? w _ ya3)).trans ya3
            replace yb0 := (HB.out.cell (World.block_lt_of_cell? w _ yb0)).trans yb0
            replace yb1 := (HB.out.cell (World.block_lt_of_cell? w _ yb1)).trans yb1
            replace yb2 := (HB.out.cell (World.block_lt_of_cell? w _ yb2)).trans yb2
            replace yb3 := (HB.out.cell (World.block_lt_of_cell? w _ yb3)).trans yb3
            replace yc0 := (HB.out.cell (World.block_lt_of_cell? w _ yc0)).trans yc0
            replace yc1 := (HB.out.cell (World.block_lt_of_cell? w _ yc1)).trans yc1
            replace yc2 := (HB.out.cell (World.block_lt_of_cell? w _ yc2)).trans yc2
            replace yc3 := (HB.out.cell (World.block_lt_of_cell? w _ yc3)).trans yc3
            go_upto_region 11 with (fail)
            dsimp only [List.append]
            refine wp_region_quiet_lit (by kernel_rfl) (lex_cast (by kernel_rfl) l6lex) ?_
            repeat (go_big_quiet_step (fail))
            refine wpQuiet_nil ?_
            intro _ hw'
            obtain ⟨nq, hw''⟩ := hw'
            subst hw''
            obtain ⟨D, hD⟩ : ∃ D, D = wrap64 (wrap64 (wrap64 (rd a 0 * wrap64 (wrap64 (rd b 1 * rd c 2) - wrap64 (rd b 2 * rd c 1))) - wrap64 (rd a 1 * wrap64 (wrap64 (rd b 0 * rd c 2) - wrap64 (rd b 2 * rd c 0)))) + wrap64 (rd a 2 * wrap64 (wrap64 (rd b 0 * rd c 1) - wrap64 (rd b 1 * rd c 0)))) := ⟨_, rfl⟩
            rw [← hD]
            have HDm := Aside0.mk (show D = m 3 by rw [hD]; exact HD.out.2.2.2.symm)
            clear hD ya0 ya1 ya2 ya3 yb0 yb1 yb2 yb3 yc0 yc1 yc2 yc3 i0 i1 i2
            have HVn := Aside0.mk (show wrap64 (-D) = vl m 3 by have := HM1.out; rw [HDm.out]; show _ = sg 3 * m 3; unfold sg wrap64; simp; omega)
            have RO5 := Aside0.mk (Kd.R_mono (Kd.R_drewN RO.out nq) (fun _ _ => trivial) : Kd.R (Kd.int .i64) 3 (wr.drewN nq) w.heap.size (fun _ => True) u7 (ul m 3))
            have HB5 := Aside0.mk (pw_below_drewN HB.out nq)
            clear RO HB
            generalize wr.drewN nq = W5 at RO5 HB5 ⊢
            go_wp2_with (first | ((with_reducible refine gate_builtin (b := .append) (xs := #[.tmp 138, .tmp 140]) rfl ?_); at_builtin; (refine Kd.R_append (Kd.int .i64) (w0 := w) w.heap.size rfl (.tmp 138) (.tmp 140) 35 3 (.int .i64 0) 8 rfl Try.underlying35 info3 rfl (by decide) (by omega) _ (ul m 3) (wrap64 (-D)) [.int .i64 (wrap64 (-D))] (fun _ => True) (fun _ => False) rfl (by first | rfl | (go_simp; done) | (go_simp; rfl)) ?aP (fun _ hk => hk.elim) (fun _ _ => trivial) ?aO ?aB ?aS ?aL ?_; (case aP => exact rfl); (case aO => exact RO5.out); (case aB => exact HB5.out); (case aS => exact below_size HB5.out); (case aL => rw [ul_len]; omega); intro v141 w141 ho hb hg hat; rw [HVn.out, ← ul_next] at ho; have RO6 := Aside0.mk ho; have HB6 := Aside0.mk hb; clear ho hb hg hat)))
            go_roundg k1
            case measure => have := HK.out; omega
            case rel => exact ⟨4, 4, rfl, ⟨rfl⟩, ⟨by have := HK.out; omega⟩, RO6, HB6⟩
          | succ k2 =>
            have y0 : 0 ≤ y := by have := HY.out; omega
            have y4 : y < 4 := by have := HY.out; have := HKk.out; omega
            have yn : decide (y < 4) = true := decide_eq_true y4
            have HY1 := Aside0.mk (show y + 1 = ((k + 1 : Nat) : Int) by have := HY.out; omega)
            have hLI := Aside0.mk (il_len 3 k)
            have hnx := il_next 3 k
            rw [← HY.out] at hnx
            by_cases hy : y = 3
            · have hys : (y != 3) = false := by rw [hy]; rfl
              have HNX := Aside0.mk (show il 3 (k + 1) = il 3 k by rw [hnx, if_neg (by rw [show (((3 : Nat) : Int)) = (3 : Int) from rfl, hys]; decide)])
              clear hy hnx
              go_wp2
              go_roundg k2
              case measure => have := HKk.out; omega
              case rel => exact ⟨k + 1, y + 1, rfl, HY1, ⟨by have := HKk.out; omega⟩, by rw [HNX.out]; exact RI, RO, HB, HG⟩
            · have hys : (y != 3) = true := bne_iff_ne.2 hy
              have HNX := Aside0.mk (show il 3 (k + 1) = il 3 k ++ [y] by rw [hnx, if_pos (by rw [show (((3 : Nat) : Int)) = (3 : Int) from rfl, hys])])
              clear hy hnx
              go_wp2_with (first | ((with_reducible refine gate_builtin (b := .append) (xs := #[.tmp 25, .tmp 27]) rfl ?_); at_builtin; refine Kd.R_append (Kd.int .i64) (w0 := wr) WM rfl (.tmp 25) (.tmp 27) 35 3 (.int .i64 0) 8 rfl Try.underlying35 info3 rfl (by decide) (by omega) _ (il 3 k) y [.int .i64 y] (fun _ => True) (fun _ => False) rfl (by first | rfl | (go_simp; done) | (go_simp; rfl)) ?aP (fun _ hk => hk.elim) (fun _ _ => trivial) ?aO ?aB ?aS ?aL ?_; (case aP => exact rfl); (case aO => exact RI.out); (case aB => exact Below.refl _ _); (case aS => exact HG.out); (case aL => have := hLI.out; have := HKk.out; omega); intro v28 w28 ho hb hg hat; rw [← HNX.out] at ho; have RI6 := Aside0.mk ho; have RO6 := Aside0.mk (Kd.R_grown RO.out hg (fun k_ hk_ e_ => by have := Kd.R_base RI.out k_ e_.symm; omega)); have HG6 := Aside0.mk (Nat.le_trans HG.out hb.size); have HB6 := Aside0.mk (show Below w.heap.size w w28 from ⟨hb.os.trans HB.out.os, hb.tape.trans HB.out.tape, hb.output.trans HB.out.output, Nat.le_trans HB.out.size hb.size, fun k_ hk_ => (hb.block k_ (by have := HWM.out; omega)).trans (HB.out.block k_ hk_)⟩); clear ho hb hg hat))
              go_roundg k2
              case measure => have := HKk.out; omega
              case rel => exact ⟨k + 1, y + 1, rfl, HY1, ⟨by have := HKk.out; omega⟩, RI6, RO6, HB6, HG6⟩
end Go.Proofs.Ytmbninbecclbiaa.Man

end
section
/- slices.IndexFunc and slices.ContainsFunc over a row of numbers, for every predicate that may lay blocks of its own; no condition but the row and the predicate's own contract. -/
namespace Go.Proofs.Ytmbninbecclbiaa.ManI
open Go.RowKit Go.Proofs.Ytmbninbecclbiaa.PA Go.Proofs.YtmbninbecclbiaaW.PrintWords Go.Proofs.YtmbninbecclbiaaW.PrintLast Go.Proofs.YtmbninbecclbiaaW.PrintMore
set_option linter.unusedVariables false
set_option linter.unusedSimpArgs false

/-- Where the first element is of which p holds; -1. -/
def idx {α : Type} (p : α → Bool) : List α → Nat → Int
  | [], _ => -1
  | x :: l, i => if p x = true then (i : Int) else idx p l (i + 1)

theorem idx_any {α : Type} (p : α → Bool) (l : List α) (i : Nat) : decide (0 ≤ idx p l i) = l.any p := by
  induction l generalizing i with
  | nil => rfl
  | cons x l ih =>
    rw [idx, List.any_cons]
    by_cases h : p x = true
    · rw [if_pos h, h]; simp
    · rw [if_neg h, ih, Bool.eq_false_iff.mpr h]; rfl

/-- What is asked of a predicate on numbers. -/
def PredInt (g : Nat) (lb : Array Value) (p : Int → Bool) (w : World) (l : List Int) : Prop :=
  ∀ (W : World) (x : Int), x ∈ l → Below w.heap.size w W → Calls Try.prog g (#[.int .i64 x] ++ lb) W fun e w' => e = .returned (.bool (p x)) ∧ Below W.heap.size W w'

set_option maxHeartbeats 4000000 in
theorem IndexFunc (p : Int → Bool) (g : Nat) (lb : Array Value) (eg : ∀ args w, (callFunc g args).run Try.prog w = .ok (.enter g args) w) (A : Option Addr) (c : Nat) (l : List Int) (w : World)
    (hp : PredInt g lb p w l) (hr : Kd.C (Kd.int .i64) w A l.length l) :
    Calls Try.prog 79 #[.slice A l.length c, .func (.func g) #[] lb] w fun e w' => e = .returned (.int .i64 (idx p l 0)) ∧ Below w.heap.size w w' := by
  have HR := Aside0.mk hr
  have HB := Aside0.mk (Below.refl w.heap.size w)
  have HP := Aside0.mk hp
  have hlen : l.length ≤ 9223372036854775807 := hr.2.1
  clear hr hp
  go_enter Try.func79, Try.ntmps79
  go_wp2
  go_loopg [5, 8] l.length (fun gg _ s8 wr => ∃ kk : Nat, kk ≤ l.length ∧ l.length - kk ≤ gg ∧ s8 = .int .i64 kk ∧ Aside0 (Below w.heap.size w wr) ∧ Aside0 (idx p l 0 = idx p (l.drop kk) kk))
  case atStart => exact ⟨0, Nat.zero_le _, by omega, rfl, HB, ⟨rfl⟩⟩
  case round =>
    clear HB
    obtain ⟨kk, hkk, hg, rfl, HB, HI⟩ := hrel
    by_cases hlt : kk < l.length
    · have hltz : (kk : Int) < (l.length : Int) := by omega
      have hk0 : (0 : Int) ≤ (kk : Int) := by omega
      obtain ⟨ad, e1, x0⟩ := Kd.at_int HR.out (kk : Int) hk0 hltz
      cases e1
      simp only [Int.toNat_natCast] at x0
      replace x0 := (HB.out.cell (World.block_lt_of_cell? w _ x0)).trans x0
      have hd : l.drop kk = rd l (kk : Int) :: l.drop (kk + 1) := by
        rw [List.drop_eq_getElem_cons hlt]
        congr 1
        unfold rd
        rw [List.getD_eq_getElem?_getD, Int.toNat_natCast, List.getElem?_eq_getElem hlt]
        rfl
      have hcall := HP.out wr (rd l (kk : Int)) (List.mem_of_mem_drop (i := kk) (by rw [hd]; exact List.mem_cons_self)) HB.out
      have HC := Aside0.mk hcall
      rw [hd, idx] at HI
      clear hcall hd
      obtain ⟨y, hy⟩ : ∃ y, rd l (kk : Int) = y := ⟨_, rfl⟩
      rw [hy] at HC HI x0
      clear hy
      cases hq : p y with
      | true =>
        rw [hq] at HC HI
        clear hq
        go_wp2_with (go_at_fn g; refine HC.out.mono ?_; rintro e w' ⟨rfl, hb'⟩)
        go_ret
        exact ⟨by rw [HI.out]; simp, below_step HB.out hb'⟩
      | false =>
        rw [hq] at HC HI
        clear hq
        go_wp2_with (go_at_fn g; refine HC.out.mono ?_; rintro e w' ⟨rfl, hb'⟩)
        go_roundg (l.length - (kk + 1))
        case measure => omega
        case rel => exact ⟨kk + 1, by omega, by omega, by go_num, ⟨below_step HB.out hb'⟩, ⟨by rw [HI.out]; simp⟩⟩
    · have hltz : ¬ (kk : Int) < (l.length : Int) := by omega
      obtain rfl : kk = l.length := by omega
      go_wp2
      go_ret
      exact ⟨by rw [HI.out]; simp [idx], HB.out⟩

theorem ContainsFunc (p : Int → Bool) (g : Nat) (lb : Array Value) (eg : ∀ args w, (callFunc g args).run Try.prog w = .ok (.enter g args) w) (A : Option Addr) (c : Nat) (l : List Int) (w : World)
    (hp : PredInt g lb p w l) (hr : Kd.C (Kd.int .i64) w A l.length l) :
    Calls Try.prog 62 #[.slice A l.length c, .func (.func g) #[] lb] w fun e w' => e = .returned (.bool (l.any p)) ∧ Below w.heap.size w w' := by
  have HC := Aside0.mk (IndexFunc p g lb eg A c l w hp hr)
  have HI := Aside0.mk (idx_any p l 0)
  clear hp hr eg
  go_enter Try.func62, Try.ntmps62
  go_wp2_with (go_at_call 79; refine HC.out.mono ?_; rintro e w' ⟨rfl, hb'⟩)
  go_ret
  exact ⟨by rw [← HI.out]; rfl, hb'⟩
end Go.Proofs.Ytmbninbecclbiaa.ManI

end
section
/- slices.IndexFunc and slices.ContainsFunc over a row of sentences, for every predicate that may lay blocks of its own; no condition but the row and the predicate's own contract. -/
namespace Go.Proofs.Ytmbninbecclbiaa.Man
open Go.RowKit Go.Proofs.Ytmbninbecclbiaa.PA Go.Proofs.YtmbninbecclbiaaW.PrintWords Go.Proofs.YtmbninbecclbiaaW.PrintLast Go.Proofs.YtmbninbecclbiaaW.PrintMore
set_option linter.unusedVariables false
set_option linter.unusedSimpArgs false

/-- Where the first element is of which p holds; -1. -/
def idx {α : Type} (p : α → Bool) : List α → Nat → Int
  | [], _ => -1
  | x :: l, i => if p x = true then (i : Int) else idx p l (i + 1)

theorem idx_any {α : Type} (p : α → Bool) (l : List α) (i : Nat) : decide (0 ≤ idx p l i) = l.any p := by
  induction l generalizing i with
  | nil => rfl
  | cons x l ih =>
    rw [idx, List.any_cons]
    by_cases h : p x = true
    · rw [if_pos h, h]; simp
    · rw [if_neg h, ih, Bool.eq_false_iff.mpr h]; rfl

/-- What is asked of a predicate on sentences. -/
def PredSay (g : Nat) (lb : Array Value) (p : S29 → Bool) (w : World) (l : List S29) : Prop :=
  ∀ (W : World) (x : S29), x ∈ l → Below w.heap.size w W → Calls Try.prog g (#[.agg #[.int .i64 x.f0, .int .i64 x.f1, .int .i64 x.f2]] ++ lb) W fun e w' => e = .returned (.bool (p x)) ∧ Below W.heap.size W w'

set_option maxHeartbeats 4000000 in
theorem IndexFunc (p : S29 → Bool) (g : Nat) (lb : Array Value) (eg : ∀ args w, (callFunc g args).run Try.prog w = .ok (.enter g args) w) (A : Option Addr) (c : Nat) (l : List S29) (w : World)
    (hp : PredSay g lb p w l) (hr : Kd.C k29 w A l.length l) :
    Calls Try.prog 78 #[.slice A l.length c, .func (.func g) #[] lb] w fun e w' => e = .returned (.int .i64 (idx p l 0)) ∧ Below w.heap.size w w' := by
  have HR := Aside0.mk hr
  have HB := Aside0.mk (Below.refl w.heap.size w)
  have HP := Aside0.mk hp
  have hlen : l.length ≤ 9223372036854775807 := hr.2.1
  clear hr hp
  go_enter Try.func78, Try.ntmps78
  go_wp2
  go_loopg [5, 8] l.length (fun gg _ s8 wr => ∃ kk : Nat, kk ≤ l.length ∧ l.length - kk ≤ gg ∧ s8 = .int .i64 kk ∧ Aside0 (Below w.heap.size w wr) ∧ Aside0 (idx p l 0 = idx p (l.drop kk) kk))
  case atStart => exact ⟨0, Nat.zero_le _, by omega, rfl, HB, ⟨rfl⟩⟩
  case round =>
    clear HB
    obtain ⟨kk, hkk, hg, rfl, HB, HI⟩ := hrel
    by_cases hlt : kk < l.length
    · have hltz : (kk : Int) < (l.length : Int) := by omega
      have hk0 : (0 : Int) ≤ (kk : Int) := by omega
      obtain ⟨ad, e1, x0, x1, x2⟩ := at_T29 HR.out (kk : Int) hk0 hltz
      cases e1
      simp only [Int.toNat_natCast] at x0 x1 x2
      replace x0 := (HB.out.cell (World.block_lt_of_cell? w _ x0)).trans x0
      replace x1 := (HB.out.cell (World.block_lt_of_cell? w _ x1)).trans x1
      replace x2 := (HB.out.cell (World.block_lt_of_cell? w _ x2)).trans x2
      have hd : l.drop kk = rd_T29 l (kk : Int) :: l.drop (kk + 1) := by
        rw [List.drop_eq_getElem_cons hlt]
        congr 1
        unfold rd_T29
        rw [List.getD_eq_getElem?_getD, Int.toNat_natCast, List.getElem?_eq_getElem hlt]
        rfl
      have hcall := HP.out wr (rd_T29 l (kk : Int)) (List.mem_of_mem_drop (i := kk) (by rw [hd]; exact List.mem_cons_self)) HB.out
      have HC := Aside0.mk hcall
      rw [hd, idx] at HI
      clear hcall hd
      cases hq : p (rd_T29 l (kk : Int)) with
      | true =>
        rw [hq] at HC HI
        clear hq
        go_wp2_with (go_at_fn g; refine HC.out.mono ?_; rintro e w' ⟨rfl, hb'⟩)
        go_ret
        exact ⟨by rw [HI.out]; simp, below_step HB.out hb'⟩
      | false =>
        rw [hq] at HC HI
        clear hq
        go_wp2_with (go_at_fn g; refine HC.out.mono ?_; rintro e w' ⟨rfl, hb'⟩)
        go_roundg (l.length - (kk + 1))
        case measure => omega
        case rel => exact ⟨kk + 1, by omega, by omega, by go_num, ⟨below_step HB.out hb'⟩, ⟨by rw [HI.out]; simp⟩⟩
    · have hltz : ¬ (kk : Int) < (l.length : Int) := by omega
      obtain rfl : kk = l.length := by omega
      go_wp2
      go_ret
      exact ⟨by rw [HI.out]; simp [idx], HB.out⟩

theorem ContainsFunc (p : S29 → Bool) (g : Nat) (lb : Array Value) (eg : ∀ args w, (callFunc g args).run Try.prog w = .ok (.enter g args) w) (A : Option Addr) (c : Nat) (l : List S29) (w : World)
    (hp : PredSay g lb p w l) (hr : Kd.C k29 w A l.length l) :
    Calls Try.prog 56 #[.slice A l.length c, .func (.func g) #[] lb] w fun e w' => e = .returned (.bool (l.any p)) ∧ Below w.heap.size w w' := by
  have HC := Aside0.mk (IndexFunc p g lb eg A c l w hp hr)
  have HI := Aside0.mk (idx_any p l 0)
  clear hp hr eg
  go_enter Try.func56, Try.ntmps56
  go_wp2_with (go_at_call 78; refine HC.out.mono ?_; rintro e w' ⟨rfl, hb'⟩)
  go_ret
  exact ⟨by rw [← HI.out]; rfl, hb'⟩
end Go.Proofs.Ytmbninbecclbiaa.Man

end
section
/- impl.areCounts and impl.areWeighed: their closures, and the calls; no condition. -/
namespace Go.Proofs.Ytmbninbecclbiaa.Man
open Go.RowKit Go.Proofs.Ytmbninbecclbiaa.PA Go.Proofs.YtmbninbecclbiaaW.PrintWords Go.Proofs.YtmbninbecclbiaaW.PrintLast Go.Proofs.YtmbninbecclbiaaW.PrintMore
set_option linter.unusedVariables false
set_option linter.unusedSimpArgs false

/-- A number of things that may be. -/
def cntB (n : Int) : Bool := decide (0 ≤ n ∧ n ≤ 99999)
def countsB (l : List Int) : Bool := decide (l.length = 4) && l.all cntB

theorem areCounts1 (w : World) (l : List Int) : ManI.PredInt 63 #[] (fun n => !cntB n) w l := by
  intro W n _ _
  have HB := Aside0.mk (Below.refl W.heap.size W)
  by_cases h1 : n < 0
  · have HE : Aside0 ((!cntB n) = true) := ⟨by unfold cntB; simp; omega⟩
    go_enter Try.func63, Try.ntmps63
    go_wp2
    go_ret
    exact ⟨by show _ = Ending.returned (.bool (!cntB n)); rw [HE.out]; rfl, HB.out⟩
  · by_cases h2 : n > 99999
    · have HE : Aside0 ((!cntB n) = true) := ⟨by unfold cntB; simp; omega⟩
      go_enter Try.func63, Try.ntmps63
      go_wp2
      go_ret
      exact ⟨by show _ = Ending.returned (.bool (!cntB n)); rw [HE.out]; first | rfl | (simp; omega), HB.out⟩
    · have HE : Aside0 ((!cntB n) = false) := ⟨by unfold cntB; simp; omega⟩
      go_enter Try.func63, Try.ntmps63
      go_wp2
      go_ret
      exact ⟨by show _ = Ending.returned (.bool (!cntB n)); rw [HE.out]; first | rfl | (simp; omega), HB.out⟩

theorem areCounts (A : Option Addr) (c : Nat) (l : List Int) (w : World) (hr : Kd.C (Kd.int .i64) w A l.length l) :
    Calls Try.prog 45 #[.slice A l.length c] w fun e w' => e = .returned (.bool (countsB l)) ∧ Below w.heap.size w w' := by
  have hlen : l.length ≤ 9223372036854775807 := hr.2.1
  have HB := Aside0.mk (Below.refl w.heap.size w)
  have eg := enters_of Try.func63 (by kernel_rfl) rfl
  have hall : l.all cntB = !l.any (fun x => !cntB x) := by rw [List.not_any_eq_all_not]; simp
  by_cases h : (l.length : Int) = 4
  · have HE : Aside0 (countsB l = !l.any (fun x => !cntB x)) := ⟨by unfold countsB; rw [hall, decide_eq_true (show l.length = 4 by omega)]; rfl⟩
    have hb1 : ((l.length : Int) == 4) = true := beq_iff_eq.mpr h
    have HF := Aside0.mk (ManI.ContainsFunc (fun x => !cntB x) 63 #[] eg A c l w (areCounts1 w l) hr)
    clear hall eg hr h
    go_enter Try.func45, Try.ntmps45
    go_wp2_with (go_at_call 62; refine HF.out.mono ?_; rintro e w' ⟨rfl, hb'⟩)
    go_ret
    exact ⟨by rw [HE.out]; rfl, hb'⟩
  · have HE : Aside0 (countsB l = false) := ⟨by unfold countsB; rw [decide_eq_false (show ¬ l.length = 4 by omega)]; rfl⟩
    have hb1 : ((l.length : Int) == 4) = false := beq_eq_false_iff_ne.mpr h
    clear hall eg hr h
    go_enter Try.func45, Try.ntmps45
    go_wp2
    go_ret
    exact ⟨by rw [HE.out]; rfl, HB.out⟩

/-- Whether a sentence compares numbers, as the printed function says. -/
def weighB (x : S29) : Bool := (impl_isWeigh.f x.f0 x.f1 x.f2).getD false
theorem isWeigh_some (f o t : Int) : ∃ b, impl_isWeigh.f f o t = some b := by
  unfold impl_isWeigh.f
  repeat' split
  all_goals exact ⟨_, rfl⟩
theorem weighB_eq (x : S29) : impl_isWeigh.f x.f0 x.f1 x.f2 = some (weighB x) := by
  obtain ⟨b, h⟩ := isWeigh_some x.f0 x.f1 x.f2
  unfold weighB
  rw [h]; rfl
def weighedB (l : List S29) : Bool := decide (l.length ≤ 6) && l.all weighB

theorem areWeighed1 (w : World) (l : List S29) : PredSay 57 #[] (fun x => !weighB x) w l := by
  intro W x _ hb
  have HB := Aside0.mk (Below.refl W.heap.size W)
  have HK := Aside0.mk (weighB_eq x)
  clear hb
  obtain ⟨q, hq⟩ : ∃ q, weighB x = q := ⟨_, rfl⟩
  have HQ := Aside0.mk hq
  rw [hq] at HK
  clear hq
  go_enter Try.func57, Try.ntmps57
  go_wp2_with (go_at_call 37; refine (impl_isWeigh.calls x.f0 x.f1 x.f2 q _ HK.out).mono ?_; rintro e w' ⟨rfl, hb'⟩)
  go_ret
  exact ⟨by show _ = Ending.returned (.bool (!weighB x)); rw [HQ.out]; rfl, below_step (below_alloc HB.out _) hb'⟩

theorem areWeighed (A : Option Addr) (c : Nat) (l : List S29) (w : World) (hr : Kd.C k29 w A l.length l) :
    Calls Try.prog 36 #[.slice A l.length c] w fun e w' => e = .returned (.bool (weighedB l)) ∧ Below w.heap.size w w' := by
  have hlen : l.length ≤ 9223372036854775807 := hr.2.1
  have HB := Aside0.mk (Below.refl w.heap.size w)
  have eg := enters_of Try.func57 (by kernel_rfl) rfl
  have hall : l.all weighB = !l.any (fun x => !weighB x) := by rw [List.not_any_eq_all_not]; simp
  by_cases h : (l.length : Int) ≤ 6
  · have HE : Aside0 (weighedB l = !l.any (fun x => !weighB x)) := ⟨by unfold weighedB; rw [hall, decide_eq_true (show l.length ≤ 6 by omega)]; rfl⟩
    have HF := Aside0.mk (ContainsFunc (fun x => !weighB x) 57 #[] eg A c l w (areWeighed1 w l) hr)
    clear hall eg hr
    go_enter Try.func36, Try.ntmps36
    go_wp2_with (go_at_call 56; refine HF.out.mono ?_; rintro e w' ⟨rfl, hb'⟩)
    go_ret
    exact ⟨by rw [HE.out]; rfl, hb'⟩
  · have HE : Aside0 (weighedB l = false) := ⟨by unfold weighedB; rw [decide_eq_false (show ¬ l.length ≤ 6 by omega)]; rfl⟩
    clear hall eg hr
    go_enter Try.func36, Try.ntmps36
    go_wp2
    go_ret
    exact ⟨by rw [HE.out]; rfl, HB.out⟩
end Go.Proofs.Ytmbninbecclbiaa.Man

end
section
/- slices.IndexFunc and slices.ContainsFunc over a row of rows, for every predicate that may lay blocks of its own; no condition but the row and the predicate's own contract. -/
namespace Go.Proofs.Ytmbninbecclbiaa.ManR
open Go.RowKit Go.Proofs.Ytmbninbecclbiaa.PA Go.Proofs.YtmbninbecclbiaaW.PrintWords Go.Proofs.YtmbninbecclbiaaW.PrintLast Go.Proofs.YtmbninbecclbiaaW.PrintMore
set_option linter.unusedVariables false
set_option linter.unusedSimpArgs false

/-- Where the first element is of which p holds; -1. -/
def idx {α : Type} (p : α → Bool) : List α → Nat → Int
  | [], _ => -1
  | x :: l, i => if p x = true then (i : Int) else idx p l (i + 1)

theorem idx_any {α : Type} (p : α → Bool) (l : List α) (i : Nat) : decide (0 ≤ idx p l i) = l.any p := by
  induction l generalizing i with
  | nil => rfl
  | cons x l ih =>
    rw [idx, List.any_cons]
    by_cases h : p x = true
    · rw [if_pos h, h]; simp
    · rw [if_neg h, ih, Bool.eq_false_iff.mpr h]; rfl

/-- What is asked of a predicate on rows. -/
def PredRow (g : Nat) (lb : Array Value) (p : List Int → Bool) (w : World) (l : List (List Int)) : Prop :=
  ∀ (W : World) (x : List Int) (A : Option Addr) (c : Nat), x ∈ l → Below w.heap.size w W → x.length ≤ c → Kd.C (Kd.int .i64) W A x.length x → Calls Try.prog g (#[.slice A x.length c] ++ lb) W fun e w' => e = .returned (.bool (p x)) ∧ Below W.heap.size W w'

set_option maxHeartbeats 4000000 in
theorem IndexFunc (p : (List Int) → Bool) (g : Nat) (lb : Array Value) (eg : ∀ args w, (callFunc g args).run Try.prog w = .ok (.enter g args) w) (A : Option Addr) (c : Nat) (l : List (List Int)) (w : World)
    (hp : PredRow g lb p w l) (hr : Kd.C (Kd.slice 3 (Kd.int .i64)) w A l.length l) :
    Calls Try.prog 83 #[.slice A l.length c, .func (.func g) #[] lb] w fun e w' => e = .returned (.int .i64 (idx p l 0)) ∧ Below w.heap.size w w' := by
  have HR := Aside0.mk hr
  have HB := Aside0.mk (Below.refl w.heap.size w)
  have HP := Aside0.mk hp
  have hlen : l.length ≤ 9223372036854775807 := hr.2.1
  clear hr hp
  go_enter Try.func83, Try.ntmps83
  go_wp2
  go_loopg [5, 8] l.length (fun gg _ s8 wr => ∃ kk : Nat, kk ≤ l.length ∧ l.length - kk ≤ gg ∧ s8 = .int .i64 kk ∧ Aside0 (Below w.heap.size w wr) ∧ Aside0 (idx p l 0 = idx p (l.drop kk) kk))
  case atStart => exact ⟨0, Nat.zero_le _, by omega, rfl, HB, ⟨rfl⟩⟩
  case round =>
    clear HB
    obtain ⟨kk, hkk, hg, rfl, HB, HI⟩ := hrel
    by_cases hlt : kk < l.length
    · have hltz : (kk : Int) < (l.length : Int) := by omega
      have hk0 : (0 : Int) ≤ (kk : Int) := by omega
      obtain ⟨ad, B, d, e1, x0, hbd, hC⟩ := at_L2 HR.out (kk : Int) hk0 hltz
      cases e1
      simp only [Int.toNat_natCast] at x0
      replace x0 := (HB.out.cell (World.block_lt_of_cell? w _ x0)).trans x0
      have HC1 := Aside0.mk (Kd.C_below hC HB.out)
      have HC2 := Aside0.mk hbd
      clear hC hbd
      have hd : l.drop kk = rd_L2 l (kk : Int) :: l.drop (kk + 1) := by
        rw [List.drop_eq_getElem_cons hlt]
        congr 1
        unfold rd_L2
        rw [List.getD_eq_getElem?_getD, Int.toNat_natCast, List.getElem?_eq_getElem hlt]
        rfl
      have hcall := HP.out wr (rd_L2 l (kk : Int)) B d (List.mem_of_mem_drop (i := kk) (by rw [hd]; exact List.mem_cons_self)) HB.out HC2.out HC1.out
      have HC := Aside0.mk hcall
      rw [hd, idx] at HI
      clear hcall hd
      cases hq : p (rd_L2 l (kk : Int)) with
      | true =>
        rw [hq] at HC HI
        clear hq
        go_wp2_with (go_at_fn g; refine HC.out.mono ?_; rintro e w' ⟨rfl, hb'⟩)
        go_ret
        exact ⟨by rw [HI.out]; simp, below_step HB.out hb'⟩
      | false =>
        rw [hq] at HC HI
        clear hq
        go_wp2_with (go_at_fn g; refine HC.out.mono ?_; rintro e w' ⟨rfl, hb'⟩)
        go_roundg (l.length - (kk + 1))
        case measure => omega
        case rel => exact ⟨kk + 1, by omega, by omega, by go_num, ⟨below_step HB.out hb'⟩, ⟨by rw [HI.out]; simp⟩⟩
    · have hltz : ¬ (kk : Int) < (l.length : Int) := by omega
      obtain rfl : kk = l.length := by omega
      go_wp2
      go_ret
      exact ⟨by rw [HI.out]; simp [idx], HB.out⟩

theorem ContainsFunc (p : (List Int) → Bool) (g : Nat) (lb : Array Value) (eg : ∀ args w, (callFunc g args).run Try.prog w = .ok (.enter g args) w) (A : Option Addr) (c : Nat) (l : List (List Int)) (w : World)
    (hp : PredRow g lb p w l) (hr : Kd.C (Kd.slice 3 (Kd.int .i64)) w A l.length l) :
    Calls Try.prog 69 #[.slice A l.length c, .func (.func g) #[] lb] w fun e w' => e = .returned (.bool (l.any p)) ∧ Below w.heap.size w w' := by
  have HC := Aside0.mk (IndexFunc p g lb eg A c l w hp hr)
  have HI := Aside0.mk (idx_any p l 0)
  clear hp hr eg
  go_enter Try.func69, Try.ntmps69
  go_wp2_with (go_at_call 83; refine HC.out.mono ?_; rintro e w' ⟨rfl, hb'⟩)
  go_ret
  exact ⟨by rw [← HI.out]; rfl, hb'⟩
end Go.Proofs.Ytmbninbecclbiaa.ManR

end
section
/- slices.Equal at rows of four, and the closures of impl.cornersOf; no condition but the rows' lengths. -/
namespace Go.Proofs.Ytmbninbecclbiaa.ManR
open Go.RowKit Go.Proofs.Ytmbninbecclbiaa.PA Go.Proofs.YtmbninbecclbiaaW.PrintWords Go.Proofs.YtmbninbecclbiaaW.PrintLast Go.Proofs.YtmbninbecclbiaaW.PrintMore
set_option linter.unusedVariables false
set_option linter.unusedSimpArgs false

theorem take_next (xs ys : List Int) (j : Nat) (h1 : j < xs.length) (h2 : j < ys.length) (ht : xs.take j = ys.take j) (he : rd xs (j : Int) = rd ys (j : Int)) : xs.take (j + 1) = ys.take (j + 1) := by
  rw [List.take_add_one, List.take_add_one, ht]
  unfold rd at he
  rw [List.getD_eq_getElem?_getD, List.getD_eq_getElem?_getD, Int.toNat_natCast] at he
  rw [List.getElem?_eq_getElem h1, List.getElem?_eq_getElem h2] at he ⊢
  simp only [Option.getD_some] at he
  rw [he]
set_option maxHeartbeats 4000000 in
set_option maxRecDepth 100000 in
theorem EqualC (A B : Option Addr) (c d : Nat) (xs ys : List Int) (w : World) (hx : Kd.C (Kd.int .i64) w A xs.length xs) (hy : Kd.C (Kd.int .i64) w B ys.length ys) (lx : xs.length = 4) (ly : ys.length = 4) :
    Calls Try.prog 72 #[.slice A xs.length c, .slice B ys.length d] w fun e w' => e = .returned (.bool (decide (xs = ys))) ∧ Below w.heap.size w w' := by
  have HX := Aside0.mk hx
  have HY := Aside0.mk hy
  have HL := Aside0.mk (show xs.length = 4 ∧ ys.length = 4 from ⟨lx, ly⟩)
  have HB := Aside0.mk (Below.refl w.heap.size w)
  rw [lx, ly]
  clear hx hy lx ly
  go_enter Try.func72, Try.ntmps72
  go_wp2
  go_loopg [13] 4 (fun kq v13 w' => ∃ (j : Nat) (y : Int), v13 = .int .i64 y ∧ Aside0 (y = (j : Int)) ∧ Aside0 (j + kq = 4) ∧ Aside0 (xs.take j = ys.take j) ∧ Aside0 (Below w.heap.size w w'))
  case atStart => exact ⟨0, 0, rfl, ⟨rfl⟩, ⟨rfl⟩, ⟨rfl⟩, HB⟩
  case round =>
    clear HB
    obtain ⟨j, y, rfl, HJ, HK, HT, HB⟩ := hrel
    cases gk with
    | zero =>
      have yn : decide (y < 4) = false := decide_eq_false (by have := HJ.out; have := HK.out; omega)
      have HE := Aside0.mk (show decide (xs = ys) = true from decide_eq_true (by
        have h := HT.out
        have h4 := HK.out
        have hl := HL.out
        rw [List.take_of_length_le (by omega), List.take_of_length_le (by omega)] at h
        exact h))
      go_wp2
      go_ret
      exact ⟨by rw [HE.out]; rfl, HB.out⟩
    | succ k1 =>
      have y0 : 0 ≤ y := by have := HJ.out; omega
      have y4 : y < 4 := by have := HJ.out; have := HK.out; omega
      have yn : decide (y < 4) = true := decide_eq_true y4
      have HJ1 := Aside0.mk (show y + 1 = ((j + 1 : Nat) : Int) by have := HJ.out; omega)
      obtain ⟨a1, e1, x1⟩ := Kd.at_int HX.out y y0 (by have := HL.out; omega)
      cases e1
      obtain ⟨a2, e2, x2⟩ := Kd.at_int HY.out y y0 (by have := HL.out; omega)
      cases e2
      replace x1 := (HB.out.cell (World.block_lt_of_cell? w _ x1)).trans x1
      replace x2 := (HB.out.cell (World.block_lt_of_cell? w _ x2)).trans x2
      by_cases he : rd xs y = rd ys y
      · have HT1 := Aside0.mk (take_next xs ys j (by have := HL.out; have := HK.out; omega) (by have := HL.out; have := HK.out; omega) HT.out (by rw [← HJ.out]; exact he))
        have e0 : (rd xs y != rd ys y) = false := by rw [he]; simp
        obtain ⟨p, hp⟩ : ∃ p, p = rd xs y := ⟨_, rfl⟩
        obtain ⟨q, hq⟩ : ∃ q, q = rd ys y := ⟨_, rfl⟩
        rw [← hp] at x1 e0
        rw [← hq] at x2 e0
        clear he hp hq
        go_upto_region 6 with (fail)
        go_quiet (fail)
        go_wp2
        go_roundg k1
        case measure => have := HK.out; omega
        case rel => exact ⟨j + 1, y + 1, rfl, HJ1, ⟨by have := HK.out; omega⟩, HT1, ⟨pw_below_drewN HB.out _⟩⟩
      · have HE := Aside0.mk (show decide (xs = ys) = false from decide_eq_false (fun e => he (by rw [e])))
        have e0 : (rd xs y != rd ys y) = true := bne_iff_ne.2 he
        obtain ⟨p, hp⟩ : ∃ p, p = rd xs y := ⟨_, rfl⟩
        obtain ⟨q, hq⟩ : ∃ q, q = rd ys y := ⟨_, rfl⟩
        rw [← hp] at x1 e0
        rw [← hq] at x2 e0
        clear he hp hq
        go_upto_region 6 with (fail)
        go_quiet (fail)
        go_wp2
        go_ret
        exact ⟨by rw [HE.out]; rfl, pw_below_drewN HB.out _⟩
/-- The closure that looks for a bound that falls. -/
theorem clo1 (B : Nat) (A : Option Addr) (c : Nat) (row : List Int) (f : List Int → Int) (k : Nat) (w : World) (hbk : w.heap[B]? = some (.cells #[.slice A row.length c] 35 (0, 0))) (hr : Kd.C (Kd.int .i64) w A row.length row) (hc : row.length ≤ c) (l : List (List Int)) (hf : ∀ x ∈ l, impl_weighed.f k row x = some (f x)) :
    PredRow 70 #[.pointer (some ⟨B, 0, none⟩)] (fun x => decide (f x < 0)) w l := by
  intro W x A' c' hx hb hxc hC
  have HC := Aside0.mk (impl_weighed.calls k A c row A' c' x (f x) W (Kd.C_below hr hb) hc hC hxc (hf x hx))
  have hc0 : W.cell? ⟨B, 0, none⟩ = some (.slice A row.length c) := (blk_cell (blk_below hbk hb) 0).trans rfl
  obtain ⟨r, hr2⟩ : ∃ r, r = f x := ⟨_, rfl⟩
  rw [← hr2] at HC
  have HR := Aside0.mk hr2
  clear hbk hr hc hf hC hxc hb hx hr2
  show Calls Try.prog 70 #[.slice A' x.length c', .pointer (some ⟨B, 0, none⟩)] W _
  go_enter Try.func70, Try.ntmps70
  go_wp2_with (first | (go_at_call 64; (with_reducible refine HC.out.mono ?_); rintro e w2 ⟨rfl, hd_⟩; have HB2 := Aside0.mk (Drawn0.below hd_); clear hd_))
  go_ret
  exact ⟨by rw [← HR.out]; rfl, HB2.out⟩
/-- The closure that looks for the row itself. -/
theorem clo2 (B : Nat) (A : Option Addr) (c : Nat) (row : List Int) (w : World) (hbk : w.heap[B]? = some (.cells #[.slice A row.length c] 35 (0, 0))) (hr : Kd.C (Kd.int .i64) w A row.length row) (lr : row.length = 4) (l : List (List Int)) (hl : ∀ x ∈ l, x.length = 4) :
    PredRow 71 #[.pointer (some ⟨B, 0, none⟩)] (fun x => decide (x = row)) w l := by
  intro W x A' c' hx hb hxc hC
  have HC := Aside0.mk (EqualC A' A c' c x row W hC (Kd.C_below hr hb) (hl x hx) lr)
  have hc0 : W.cell? ⟨B, 0, none⟩ = some (.slice A row.length c) := (blk_cell (blk_below hbk hb) 0).trans rfl
  obtain ⟨r, hr2⟩ : ∃ r, r = decide (x = row) := ⟨_, rfl⟩
  rw [← hr2] at HC
  have HR := Aside0.mk hr2
  clear hbk hr hC hxc hb hx hr2 lr hl
  show Calls Try.prog 71 #[.slice A' x.length c', .pointer (some ⟨B, 0, none⟩)] W _
  go_enter Try.func71, Try.ntmps71
  go_wp2_with (first | (go_at_call 72; (with_reducible refine HC.out.mono ?_); rintro e w2 ⟨rfl, hd_⟩; have HB2 := Aside0.mk hd_; clear hd_))
  go_ret
  exact ⟨by rw [← HR.out]; rfl, HB2.out⟩
end Go.Proofs.Ytmbninbecclbiaa.ManR

end
section
/- slices.SortFunc with slices.Compare at rows of the call's own, by the library's own contract; no condition but that no row stands twice. -/
namespace Go.Proofs
open Go.Shelf
def Ytmbninbecclbiaa.laySort_ren : Go.Shelf.Ren := ⟨fun | 6 => 73 | 15 => 85 | 14 => 84 | 28 => 96 | 29 => 97 | 20 => 88 | 21 => 89 | 22 => 90 | 23 => 91 | 24 => 92 | 25 => 93 | 26 => 94 | 27 => 95 | 46 => 99 | 47 => 100 | 48 => 101 | 49 => 102 | 50 => 103 | 57 => 104 | n => n, fun | 22 => 45 | 24 => 35 | 25 => 71 | 3 => 3 | 39 => 88 | 0 => 0 | 53 => 99 | 55 => 101 | 4 => 4 | 46 => 92 | 45 => 91 | 50 => 96 | 5 => 5 | 9 => 9 | 66 => 102 | 70 => 106 | 76 => 108 | 77 => 109 | n => n, fun | n => n⟩
theorem Ytmbninbecclbiaa.laySort : Go.Proofs.SlLaysF.n6 Try.prog Ytmbninbecclbiaa.laySort_ren := {
  mixed := by kernel_rfl
  f6 := ⟨Try.f73.name, by decide, Try.func73.trans (congrArg some (by kernel_rfl))⟩
  f14 := ⟨Try.f84.name, by decide, Try.func84.trans (congrArg some (by kernel_rfl))⟩
  f15 := Try.func85.trans (congrArg some (by kernel_rfl))
  f20 := ⟨Try.f88.name, by decide, Try.func88.trans (congrArg some (by kernel_rfl))⟩
  f21 := ⟨Try.f89.name, by decide, Try.func89.trans (congrArg some (by kernel_rfl))⟩
  f22 := ⟨Try.f90.name, by decide, Try.func90.trans (congrArg some (by kernel_rfl))⟩
  f23 := ⟨Try.f91.name, by decide, Try.func91.trans (congrArg some (by kernel_rfl))⟩
  f24 := ⟨Try.f92.name, by decide, Try.func92.trans (congrArg some (by kernel_rfl))⟩
  f25 := ⟨Try.f93.name, by decide, Try.func93.trans (congrArg some (by kernel_rfl))⟩
  f26 := ⟨Try.f94.name, by decide, Try.func94.trans (congrArg some (by kernel_rfl))⟩
  f27 := ⟨Try.f95.name, by decide, Try.func95.trans (congrArg some (by kernel_rfl))⟩
  f28 := Try.func96.trans (congrArg some (by kernel_rfl))
  f29 := Try.func97.trans (congrArg some (by kernel_rfl))
  f46 := ⟨Try.f99.name, by decide, Try.func99.trans (congrArg some (by kernel_rfl))⟩
  f47 := Try.func100.trans (congrArg some (by kernel_rfl))
  f48 := Try.func101.trans (congrArg some (by kernel_rfl))
  f49 := ⟨Try.f102.name, by decide, Try.func102.trans (congrArg some (by kernel_rfl))⟩
  f50 := ⟨Try.f103.name, by decide, Try.func103.trans (congrArg some (by kernel_rfl))⟩
  f57 := ⟨Try.f104.name, by decide, Try.func104.trans (congrArg some (by kernel_rfl))⟩
  t0 := Try.underlying0
  a0 := Try.isAgg0
  z0 := Try.sizeOf0
  v0 := Try.zeroValue0
  t3 := Try.underlying3
  a3 := Try.isAgg3
  z3 := Try.sizeOf3
  v3 := Try.zeroValue3
  t4 := Try.underlying4
  a4 := Try.isAgg4
  z4 := Try.sizeOf4
  v4 := Try.zeroValue4
  t5 := Try.underlying5
  a5 := Try.isAgg5
  z5 := Try.sizeOf5
  v5 := Try.zeroValue5
  t9 := Try.underlying9
  a9 := Try.isAgg9
  z9 := Try.sizeOf9
  v9 := Try.zeroValue9
  t22 := Try.underlying45
  a22 := Try.isAgg45
  z22 := Try.sizeOf45
  v22 := Try.zeroValue45
  a24 := Try.isAgg35
  z24 := Try.sizeOf35
  t25 := Try.underlying71
  a25 := Try.isAgg71
  z25 := Try.sizeOf71
  v25 := Try.zeroValue71
  t39 := Try.underlying88
  a39 := Try.isAgg88
  z39 := Try.sizeOf88
  v39 := Try.zeroValue88
  t45 := Try.underlying91
  a45 := Try.isAgg91
  z45 := Try.sizeOf91
  v45 := Try.zeroValue91
  t46 := Try.underlying92
  a46 := Try.isAgg92
  z46 := Try.sizeOf92
  v46 := Try.zeroValue92
  t50 := Try.underlying96
  a50 := Try.isAgg96
  z50 := Try.sizeOf96
  v50 := Try.zeroValue96
  t53 := Try.underlying99
  a53 := Try.isAgg99
  z53 := Try.sizeOf99
  v53 := Try.zeroValue99
  t55 := Try.underlying101
  a55 := Try.isAgg101
  z55 := Try.sizeOf101
  v55 := Try.zeroValue101
  t66 := Try.underlying102
  a66 := Try.isAgg102
  z66 := Try.sizeOf102
  v66 := Try.zeroValue102
  t70 := Try.underlying106
  a70 := Try.isAgg106
  z70 := Try.sizeOf106
  v70 := Try.zeroValue106
  t76 := Try.underlying108
  a76 := Try.isAgg108
  z76 := Try.sizeOf108
  v76 := Try.zeroValue108
  t77 := Try.underlying109
  a77 := Try.isAgg109
  z77 := Try.sizeOf109
  v77 := Try.zeroValue109 }
end Go.Proofs
namespace Go.Proofs.Ytmbninbecclbiaa.ManR
open Go.RowKit Go.Proofs.Ytmbninbecclbiaa.PA Go.Proofs.YtmbninbecclbiaaW.PrintWords Go.Proofs.YtmbninbecclbiaaW.PrintLast Go.Proofs.YtmbninbecclbiaaW.PrintMore
set_option linter.unusedVariables false
set_option linter.unusedSimpArgs false

/-- Rows in their order. -/
def lexC : List Int → List Int → Int
  | [], [] => 0
  | [], _ :: _ => -1
  | _ :: _, [] => 1
  | a :: l, b :: m => if a < b then -1 else if b < a then 1 else lexC l m
theorem lexC_self : ∀ x, lexC x x = 0
  | [] => rfl
  | a :: l => by unfold lexC; rw [if_neg (by omega), if_neg (by omega)]; exact lexC_self l
theorem lexC_eq : ∀ x y, lexC x y = 0 → x = y
  | [], [], _ => rfl
  | [], _ :: _, h => by simp [lexC] at h
  | _ :: _, [], h => by simp [lexC] at h
  | a :: l, b :: m, h => by
    unfold lexC at h
    split at h
    · simp at h
    · split at h
      · simp at h
      · rw [lexC_eq l m h]; congr 1; omega
theorem lexC_swap : ∀ x y, lexC y x = - lexC x y
  | [], [] => rfl
  | [], _ :: _ => rfl
  | _ :: _, [] => rfl
  | a :: l, b :: m => by
    unfold lexC
    by_cases h : a < b
    · rw [if_pos h, if_neg (by omega), if_pos h]; rfl
    · by_cases h2 : b < a
      · rw [if_pos h2, if_neg h, if_pos h2]
      · rw [if_neg h2, if_neg h, if_neg h, if_neg h2]; exact lexC_swap l m
theorem lexC_trans : ∀ x y z, lexC x y < 0 → lexC y z ≤ 0 → lexC x z < 0
  | [], [], [], h, _ => by simp [lexC] at h
  | [], [], _ :: _, h, _ => by simp [lexC] at h
  | [], _ :: _, [], _, h => by simp [lexC] at h
  | [], _ :: _, _ :: _, _, _ => by simp [lexC]
  | _ :: _, [], _, h, _ => by simp [lexC] at h
  | _ :: _, _ :: _, [], _, h => by simp [lexC] at h
  | a :: l, b :: m, c :: n, h1, h2 => by
    have ih := lexC_trans l m n
    unfold lexC at h1 h2 ⊢
    split at h1
    · split at h2
      · rw [if_pos (by omega)]; decide
      · split at h2
        · simp at h2
        · rw [if_pos (by omega)]; decide
    · split at h1
      · simp at h1
      · split at h2
        · rw [if_pos (by omega)]; decide
        · split at h2
          · simp at h2
          · rw [if_neg (by omega), if_neg (by omega)]; exact ih h1 h2
theorem lexC_ntrans (x y z) (h1 : ¬ lexC x y < 0) (h2 : ¬ lexC y z < 0) : ¬ lexC x z < 0 := by
  intro h
  have s1 := lexC_swap x y
  have s2 := lexC_swap y z
  have := lexC_trans x z y h (by omega)
  exact h1 this

def sortL (l : List (List Int)) : List (List Int) := l.mergeSort fun x y => !(decide (lexC y x < 0))
theorem rd_get (l : List Int) (i : Nat) (h : i < l.length) : rd l (i : Int) = l[i] := by
  unfold rd
  rw [List.getD_eq_getElem?_getD, Int.toNat_natCast, List.getElem?_eq_getElem h]
  rfl
theorem cmp_from (x y : List Int) (hx : x.length ≤ 1000) (hy : y.length ≤ 1000) : ∀ (d i k : Nat), i + d = x.length → d < k → slices_Compare_int_int.l0 k x y x (x.length : Int) (i : Int) = some (lexC (x.drop i) (y.drop i)) := by
  intro d
  induction d with
  | zero =>
    intro i k hi hk
    obtain ⟨k, rfl⟩ : ∃ m, k = m + 1 := ⟨k - 1, by omega⟩
    simp only [slices_Compare_int_int.l0]
    rw [if_neg (by omega), List.drop_of_length_le (by omega : x.length ≤ i)]
    by_cases h : (x.length : Int) < (y.length : Int)
    · rw [if_pos h, List.drop_eq_getElem_cons (by omega : i < y.length)]; rfl
    · rw [if_neg h, List.drop_of_length_le (by omega : y.length ≤ i)]; rfl
  | succ d ih =>
    intro i k hi hk
    obtain ⟨k, rfl⟩ : ∃ m, k = m + 1 := ⟨k - 1, by omega⟩
    have hxi : i < x.length := by omega
    simp only [slices_Compare_int_int.l0]
    rw [if_pos (by omega), if_pos (by omega), if_pos (by omega), List.drop_eq_getElem_cons hxi]
    by_cases h : i < y.length
    · rw [if_neg (by omega), if_pos (by omega), List.drop_eq_getElem_cons h, rd_get x i hxi, rd_get y i h]
      have hn := ih (i + 1) k (by omega) (by omega)
      rw [show wrap64 ((i : Int) + 1) = ((i + 1 : Nat) : Int) by unfold wrap64; omega, hn]
      generalize x[i] = a
      generalize y[i] = b
      unfold cmp_Compare_int.f cmp_isNaN_int.f
      simp only [Option.bind_some, bne_self_eq_false, Bool.false_eq_true, if_false]
      by_cases h1 : a < b
      · rw [if_pos h1]; simp [lexC, h1]
      · by_cases h2 : a > b
        · rw [if_neg h1, if_pos h2]; simp [lexC, h1, h2]
        · rw [if_neg h1, if_neg h2]; simp [lexC, h1, show ¬ b < a from h2]
    · rw [if_pos (by omega), List.drop_of_length_le (by omega : y.length ≤ i)]; rfl
theorem cmp_eq (x y : List Int) (hx : x.length ≤ 1000) (hy : y.length ≤ 1000) : slices_Compare_int_int.f 1001 x y = some (lexC x y) := by
  unfold slices_Compare_int_int.f
  have := cmp_from x y hx hy x.length 0 1001 (by omega) (by omega)
  simpa using this

section
variable (W : World) (base : Nat) (v : Value) (o : List (List Int))
theorem own_grow {w : World} {base n : Nat} {e : TypeId} {size : Nat} {v : Value} {xs : List Value} (h : w.ownsRow base e size v n xs) (os : Array Obj) : (Go.Sort.grow w os).ownsRow base e size v n xs := by
  refine own_move h (fun k hk => ?_)
  have hlt := own_lt h k hk
  show (w.heap ++ os)[k]? = w.heap[k]?
  rw [Array.getElem?_append_left hlt]
theorem sort_heap {α : Type} [Inhabited α] (enc : α → Value) (g n : Nat) (d : Array α) (os : Array Obj) (k : Nat) (hk : k < W.heap.size) (hg : k ≠ g) : (sortWorld enc W g 0 n d os).heap[k]? = W.heap[k]? := by
  show ((Go.Sort.putRow enc (Go.Sort.ahead W n) g 0 d).heap ++ os)[k]? = W.heap[k]?
  rw [Array.getElem?_append_left (by simpa [Go.Sort.putRow, Go.Sort.mapBlock, Go.Sort.ahead] using hk)]
  simp [Go.Sort.putRow, Go.Sort.mapBlock, Go.Sort.ahead, Array.getElem?_modify, Ne.symm hg]

set_option maxHeartbeats 4000000 in
theorem sortC (hS : Kd.S (Kd.slice 3 (Kd.int .i64)) 35 W base (fun _ => True) v o) (hn : o.Nodup) (h4 : ∀ x ∈ o, x.length ≤ 1000) (hlen : o.length ≤ 100000) :
    Calls Try.prog 73 #[v, .func (.func 74) #[] #[]] W fun e w' => e = .returned (.tuple #[]) ∧ Kd.S (Kd.slice 3 (Kd.int .i64)) 35 w' base (fun _ => True) v (sortL o) ∧ (∀ w0 : World, base = w0.heap.size → Below base w0 W → Below base w0 w') := by
  by_cases ho : o = []
  · subst ho
    obtain ⟨A, c, rfl⟩ := Kd.S_slice hS
    refine (AnyF.slices_SortFunc_none { Ytmbninbecclbiaa.laySort with } A c (.func (.func 74) #[] #[]) W).mono ?_
    rintro e w' ⟨rfl, rfl⟩
    exact ⟨rfl, by rw [show sortL [] = [] from List.mergeSort_nil]; exact hS, fun w0 _ h => h⟩
  · have hpos : 0 < o.length := List.length_pos_iff.2 ho
    obtain ⟨g, cap, rfl, hb, hlt, _, _⟩ := Kd.S_form hS hpos
    obtain ⟨f, h0, inner, hown, hrep⟩ := hS
    rw [List.length_zipIdx] at hown
    have hil : inner.length = o.length := by have := hrep.1; rw [List.length_zipIdx, show (Kd.tag f (Kd.slice 3 (Kd.int .i64))).sz = 1 from rfl, Nat.mul_one] at this; exact this
    letI : Inhabited (Fin o.length) := ⟨⟨0, hpos⟩⟩
    -- every element
    have hel : ∀ i : Fin o.length, ∃ A c, inner[i.val]'(by omega) = .slice A (o[i.val]).length c ∧ (Kd.int .i64).R 3 W base (fun k => ((True ∧ some k ≠ (Value.slice (some ⟨g, 0, none⟩) o.length cap).ownBlock) ∧ f k = i.val)) (.slice A (o[i.val]).length c) (o[i.val]) := fun i => by
      have h := hrep.2 i.val (o[i.val], i.val) (Kd.zip_at (List.getElem?_eq_getElem i.isLt))
      obtain ⟨u, hu, hR⟩ := h
      have e1 : inner[i.val]'(by omega) = u := by
        have := congrArg (fun l => l[0]?) hu
        rw [show (Kd.tag f (Kd.slice 3 (Kd.int .i64))).sz = 1 from rfl, Nat.mul_one] at this
        simp only [List.getElem?_take, List.getElem?_drop, Nat.add_zero, List.getElem?_cons_zero] at this
        rw [if_pos (by decide), List.getElem?_eq_getElem (by omega)] at this
        exact Option.some.inj this
      obtain ⟨A, c, e2⟩ := Kd.R_slice hR
      exact ⟨A, c, e1.trans e2, e2 ▸ hR⟩
    obtain ⟨enc, henc⟩ : ∃ enc : Fin o.length → Value, enc = fun i => inner[i.val]'(by omega) := ⟨_, rfl⟩
    have hen : ∀ i : Fin o.length, ∃ A c, enc i = .slice A (o[i.val]).length c ∧ (Kd.int .i64).R 3 W base (fun k => ((True ∧ some k ≠ (Value.slice (some ⟨g, 0, none⟩) o.length cap).ownBlock) ∧ f k = i.val)) (.slice A (o[i.val]).length c) (o[i.val]) := fun i => by rw [henc]; exact hel i
    have hin : inner = (List.finRange o.length).map enc := by
      apply List.ext_getElem
      · rw [List.length_map, List.length_finRange, hil]
      · intro j h1 h2
        rw [List.getElem_map, List.getElem_finRange]
        exact (congrFun henc (⟨j, by omega⟩ : Fin o.length)).symm
    have hown1 : W.ownsRow base 35 1 (.slice (some ⟨g, 0, none⟩) o.length cap) o.length ((List.finRange o.length).map enc) := by rw [← hin]; exact hown
    obtain ⟨g', cap', e', _, _, _, _, _, hH⟩ := Go.Lib.holds_of_ownsRow hown1 (by intro e; cases e)
    injection e' with e1 _ e3
    injection e1 with e1
    injection e1 with e1
    subst e1 e3
    have eg := enters_of Try.func74 (by kernel_rfl) rfl
    obtain ⟨cf, hcf⟩ : ∃ cf : Fin o.length → Fin o.length → Int, cf = fun i j => lexC (o[i.val]) (o[j.val]) := ⟨_, rfl⟩
    have hlt' : ∀ i j, ltOf cf i j = decide (lexC (o[i.val]) (o[j.val]) < 0) := fun i j => by unfold ltOf; rw [hcf]
    have hO : Go.Sort.SWO (ltOf cf) := ⟨fun x => by rw [hlt', lexC_self]; rfl, fun x y z h1 h2 => by
        rw [hlt'] at *
        exact decide_eq_true (lexC_trans _ _ _ (of_decide_eq_true h1) (Int.le_of_lt (of_decide_eq_true h2))), fun x y z h1 h2 => by
        rw [hlt'] at *
        exact decide_eq_false (lexC_ntrans _ _ _ (of_decide_eq_false h1) (of_decide_eq_false h2))⟩
    have hT : ∀ x y, ltOf cf x y = false → ltOf cf y x = false → x = y := fun x y h1 h2 => by
      rw [hlt'] at *
      have h1 := of_decide_eq_false h1
      have h2 := of_decide_eq_false h2
      rw [lexC_swap] at h2
      have e := lexC_eq _ _ (show lexC (o[x.val]) (o[y.val]) = 0 by omega)
      exact Fin.ext ((List.getElem_inj hn).1 e)
    have hmove : ∀ (m : Nat) (dk : Array (Fin o.length)) (os : Array Obj) (i : Fin o.length) (A : Option Addr) (c : Nat), (Kd.int .i64).R 3 W base (fun k => ((True ∧ some k ≠ (Value.slice (some ⟨g, 0, none⟩) o.length cap).ownBlock) ∧ f k = i.val)) (.slice A (o[i.val]).length c) (o[i.val]) → (Kd.int .i64).R 3 (sortWorld enc W g 0 m dk os) base (fun k => ((True ∧ some k ≠ (Value.slice (some ⟨g, 0, none⟩) o.length cap).ownBlock) ∧ f k = i.val)) (.slice A (o[i.val]).length c) (o[i.val]) :=
      fun m dk os i A c h => Kd.R_step h (fun k hk hks => sort_heap W enc g m dk os k hks (fun e => hk.1.2 (by rw [e]; rfl)))
    have hcmp : CmpLays1 Try.prog 74 #[] enc cf g 0 (List.finRange o.length).toArray.size W := by
      intro m os dk _ x y
      obtain ⟨A, c, ex, hx⟩ := hen x
      obtain ⟨B, d, ey, hy⟩ := hen y
      have rx := Kd.R_reads' (hmove m dk os x A c hx)
      have ry := Kd.R_reads' (hmove m dk os y B d hy)
      rw [ex, ey, hcf]
      refine (slices_Compare_int_int.calls 1001 A c (o[x.val]) B d (o[y.val]) _ (sortWorld enc W g 0 m dk os) rx.2.2 rx.2.1 ry.2.2 ry.2.1 (cmp_eq _ _ (h4 _ (List.getElem_mem _)) (h4 _ (List.getElem_mem _)))).mono ?_
      rintro e w' ⟨he, q, hq⟩
      exact ⟨he, q, #[], by rw [hq, Go.Sort.grow_empty]⟩
    have hsz : (List.finRange o.length).toArray.size = o.length := by rw [List.size_toArray, List.length_finRange]
    have hcon := Any.slices_SortFunc_total Ytmbninbecclbiaa.laySort enc (fun i => by obtain ⟨A, c, e, _⟩ := hen i; rw [e]; rfl) cf hO 74 #[] g 0 cap (List.finRange o.length).toArray W eg hcmp hH hlt (by rw [hsz]; omega) hT
    rw [hsz] at hcon
    refine (show Calls Try.prog 73 _ _ _ from hcon).mono ?_
    rintro e w' ⟨rfl, m, os, rfl⟩
    obtain ⟨p, hp⟩ : ∃ p, p = (List.finRange o.length).mergeSort fun x y => !(ltOf cf) y x := ⟨_, rfl⟩
    rw [show (List.finRange o.length).toArray.toList = List.finRange o.length from rfl, ← hp]
    have hpl : p.length = o.length := by rw [hp, List.length_mergeSort, List.length_finRange]
    have hpn : p.Nodup := by rw [hp]; exact (List.mergeSort_perm _ _).nodup_iff.2 (List.nodup_finRange _)
    have hps : p.map o.get = sortL o := by
      rw [hp, List.map_mergeSort (s := fun x y => !(decide (lexC y x < 0))) (fun a _ b _ => by rw [hlt']; rfl)]
      unfold sortL
      congr 1
      apply List.ext_getElem
      · rw [List.length_map, List.length_finRange]
      · intro j h1 h2
        rw [List.getElem_map, List.getElem_finRange]
        rfl
    have hsl : (sortL o).length = o.length := by rw [← hps, List.length_map, hpl]
    have hput := own_grow (Go.Lib.ownsRow_putRow (q := m) (k := o.length) hown1 hpl (Nat.le_refl _)) os
    rw [List.take_of_length_le (by omega)] at hput
    refine ⟨rfl, ⟨fun k => if h : f k < o.length then p.idxOf ⟨f k, h⟩ else 0, fun k hk => trivial, p.map enc, ?_, ?_⟩, fun w0 e0 hb0 => ?_⟩
    · rw [List.length_zipIdx, hsl]
      exact hput
    · refine ⟨by rw [List.length_map, List.length_zipIdx, hsl, hpl]; exact (Nat.mul_one _).symm, fun j q hq => ?_⟩
      have hj : j < p.length := by
        have := (List.getElem?_eq_some_iff.1 hq).1
        rw [List.length_zipIdx, hsl] at this
        omega
      obtain ⟨A, c, ee, hR⟩ := hen (p[j])
      have hq2 : q = (o[(p[j]).val], j) := by
        rw [List.getElem?_zipIdx, ← hps, List.getElem?_map, List.getElem?_eq_getElem hj] at hq
        simpa using hq.symm
      subst hq2
      refine ⟨enc (p[j]), ?_, ?_⟩
      · show ((p.map enc).drop (j * 1)).take 1 = _
        rw [Nat.mul_one, List.drop_eq_getElem_cons (by rw [List.length_map]; exact hj), List.getElem_map]
        rfl
      · rw [ee]
        refine Kd.R_mono (hmove m p.toArray os (p[j]) A c hR) (fun k hk => ⟨hk.1, ?_⟩)
        show (if h : f k < o.length then p.idxOf ⟨f k, h⟩ else 0) = j
        rw [dif_pos (show f k < o.length by rw [hk.2]; exact (p[j]).isLt), show (⟨f k, by rw [hk.2]; exact (p[j]).isLt⟩ : Fin o.length) = p[j] from Fin.ext hk.2]
        exact hpn.idxOf_getElem j hj
    · subst e0
      have h1 := Go.Lib.below_putRow (enc := enc) (q := m) (d := p.toArray) hb0 hb
      exact ⟨h1.os, h1.tape, h1.output, by have := h1.size; show _ ≤ (_ ++ os).size; rw [Array.size_append]; omega, fun k hk => by
        rw [← h1.block k hk]
        show ((Go.Sort.putRow enc (Go.Sort.ahead W m) g 0 p.toArray).heap ++ os)[k]? = _
        rw [Array.getElem?_append_left (by have := h1.size; omega)]⟩
end
end Go.Proofs.Ytmbninbecclbiaa.ManR

end
section
/- impl.cornersOf: no condition but that the sentences' rows and the sums are known, and bounds on the minors. -/
namespace Go.Proofs.Ytmbninbecclbiaa.ManR
open Go.RowKit Go.Proofs.Ytmbninbecclbiaa.PA Go.Proofs.YtmbninbecclbiaaW.PrintWords Go.Proofs.YtmbninbecclbiaaW.PrintLast Go.Proofs.YtmbninbecclbiaaW.PrintMore
set_option linter.unusedVariables false
set_option linter.unusedSimpArgs false

abbrev KS : Kd (List Int) := Kd.slice 3 (Kd.int .i64)
def units : List (List Int) := [[1, 0, 0, 0], [0, 1, 0, 0], [0, 0, 1, 0], [0, 0, 0, 1]]
/-- The bounds. -/
def bsL (rw : S29 → List Int) (l : List S29) : List (List Int) := units ++ (l.filter fun s => s.f0 != 1).map rw
/-- One round of the inner loop. -/
def stepR (wd : List Int → List Int → Int) (bs : List (List Int)) (o : List (List Int)) (a b c : List Int) : List (List Int) :=
  if Man.lineL (Man.ml a b c) = [] then o else if (bs.any fun x => decide (wd (Man.lineL (Man.ml a b c)) x < 0)) = true then o else if (o.any fun x => decide (x = Man.lineL (Man.ml a b c))) = true then o else o ++ [Man.lineL (Man.ml a b c)]
def l3 (wd : List Int → List Int → Int) (bs : List (List Int)) (a b : List Int) : Nat → List (List Int) → List (List Int)
  | 0, o => o
  | j + 1, o => stepR wd bs (l3 wd bs a b j o) a b (rd_L2 bs (j : Int))
def l2 (wd : List Int → List Int → Int) (bs : List (List Int)) (a : List Int) : Nat → List (List Int) → List (List Int)
  | 0, o => o
  | k + 1, o => l3 wd bs a (rd_L2 bs (k : Int)) k (l2 wd bs a k o)
def l1 (wd : List Int → List Int → Int) (bs : List (List Int)) : Nat → List (List Int)
  | 0 => []
  | i + 1 => l2 wd bs (rd_L2 bs (i : Int)) i (l1 wd bs i)
theorem mem_rd (bs : List (List Int)) (x : Int) (h0 : 0 ≤ x) (h : x < (bs.length : Int)) : rd_L2 bs x ∈ bs := by
  unfold rd_L2
  rw [List.getD_eq_getElem?_getD, List.getElem?_eq_getElem (by omega)]
  exact List.getElem_mem _
theorem lineL_len (m : Nat → Int) : Man.lineL m = [] ∨ (Man.lineL m).length = 4 := by
  unfold Man.lineL
  split
  · exact Or.inl rfl
  · split
    · exact Or.inl rfl
    · exact Or.inr (Man.ol_len m)

theorem stepR_len (wd : List Int → List Int → Int) (bs o : List (List Int)) (a b c : List Int) : (stepR wd bs o a b c).length ≤ o.length + 1 ∧ ((∀ x ∈ o, x.length = 4) → ∀ x ∈ stepR wd bs o a b c, x.length = 4) := by
  unfold stepR
  split
  · exact ⟨by omega, fun h => h⟩
  · rename_i h1
    split
    · exact ⟨by omega, fun h => h⟩
    · split
      · exact ⟨by omega, fun h => h⟩
      · refine ⟨by simp, fun h x hx => ?_⟩
        rcases List.mem_append.1 hx with hx | hx
        · exact h x hx
        · rw [List.mem_singleton.1 hx]
          exact (lineL_len _).resolve_left h1
theorem l3_len (wd : List Int → List Int → Int) (bs : List (List Int)) (a b : List Int) (o : List (List Int)) : ∀ j, (l3 wd bs a b j o).length ≤ o.length + j ∧ ((∀ x ∈ o, x.length = 4) → ∀ x ∈ l3 wd bs a b j o, x.length = 4)
  | 0 => ⟨Nat.le_refl _, fun h => h⟩
  | j + 1 => by
    have ih := l3_len wd bs a b o j
    have hs := stepR_len wd bs (l3 wd bs a b j o) a b (rd_L2 bs (j : Int))
    exact ⟨by show (stepR wd bs (l3 wd bs a b j o) a b (rd_L2 bs (j : Int))).length ≤ _; omega, fun h => hs.2 (ih.2 h)⟩
theorem l2_len (wd : List Int → List Int → Int) (bs : List (List Int)) (a : List Int) (o : List (List Int)) : ∀ k, k ≤ 10 → (l2 wd bs a k o).length ≤ o.length + 10 * k ∧ ((∀ x ∈ o, x.length = 4) → ∀ x ∈ l2 wd bs a k o, x.length = 4)
  | 0, _ => ⟨Nat.le_refl _, fun h => h⟩
  | k + 1, hk => by
    have ih := l2_len wd bs a o k (by omega)
    have hs := l3_len wd bs a (rd_L2 bs (k : Int)) (l2 wd bs a k o) k
    exact ⟨by show (l3 wd bs a (rd_L2 bs (k : Int)) k (l2 wd bs a k o)).length ≤ _; omega, fun h => hs.2 (ih.2 h)⟩
theorem l1_len (wd : List Int → List Int → Int) (bs : List (List Int)) : ∀ i, i ≤ 10 → (l1 wd bs i).length ≤ 100 * i ∧ ∀ x ∈ l1 wd bs i, x.length = 4
  | 0, _ => ⟨Nat.le_refl _, fun x hx => absurd hx (List.not_mem_nil)⟩
  | i + 1, hi => by
    have ih := l1_len wd bs i (by omega)
    have hs := l2_len wd bs (rd_L2 bs (i : Int)) (l1 wd bs i) i (by omega)
    exact ⟨by show (l2 wd bs (rd_L2 bs (i : Int)) i (l1 wd bs i)).length ≤ _; omega, hs.2 ih.2⟩
theorem stepR_nodup (wd : List Int → List Int → Int) (bs o : List (List Int)) (a b c : List Int) (h : o.Nodup) : (stepR wd bs o a b c).Nodup := by
  unfold stepR
  split
  · exact h
  · split
    · exact h
    · split
      · exact h
      · rename_i h3
        refine List.nodup_append.2 ⟨h, by simp, fun x hx y hy e => h3 ?_⟩
        rw [List.mem_singleton.1 hy] at e
        exact List.any_eq_true.2 ⟨x, hx, decide_eq_true e⟩
theorem l3_nodup (wd : List Int → List Int → Int) (bs : List (List Int)) (a b : List Int) (o : List (List Int)) (h : o.Nodup) : ∀ j, (l3 wd bs a b j o).Nodup
  | 0 => h
  | j + 1 => stepR_nodup wd bs _ a b _ (l3_nodup wd bs a b o h j)
theorem l2_nodup (wd : List Int → List Int → Int) (bs : List (List Int)) (a : List Int) (o : List (List Int)) (h : o.Nodup) : ∀ k, (l2 wd bs a k o).Nodup
  | 0 => h
  | k + 1 => l3_nodup wd bs a _ _ (l2_nodup wd bs a o h k) k
theorem l1_nodup (wd : List Int → List Int → Int) (bs : List (List Int)) : ∀ i, (l1 wd bs i).Nodup
  | 0 => List.nodup_nil
  | i + 1 => l2_nodup wd bs _ _ (l1_nodup wd bs i) i
section
variable (w : World) (A : Option Addr) (c : Nat) (l : List S29) (rw : S29 → List Int) (wd : List Int → List Int → Int) (kw kd : Nat)
set_option maxHeartbeats 8000000 in
set_option maxRecDepth 100000 in
theorem cornersOf (hr : Kd.C k29 w A l.length l) (hl : l.length ≤ 6) (hrw : ∀ s ∈ l, s.f0 ≠ 1 → impl_weightsOf.f kw s.f0 s.f1 s.f2 = some (rw s))
    (h4 : ∀ x ∈ bsL rw l, x.length = 4) (hm : ∀ a ∈ bsL rw l, ∀ b ∈ bsL rw l, ∀ d ∈ bsL rw l, ∀ i, i < 4 → -1000 ≤ Man.ml a b d i ∧ Man.ml a b d i ≤ 1000)
    (hd : ∀ a ∈ bsL rw l, ∀ b ∈ bsL rw l, ∀ d ∈ bsL rw l, ∀ x ∈ bsL rw l, Man.lineL (Man.ml a b d) ≠ [] → impl_weighed.f kd (Man.lineL (Man.ml a b d)) x = some (wd (Man.lineL (Man.ml a b d)) x)) :
    Calls Try.prog 51 #[.slice A l.length c] w fun e w' => ∃ v, e = .returned v ∧ Kd.S KS 35 w' w.heap.size (fun _ => True) v (sortL (l1 wd (bsL rw l) (bsL rw l).length)) ∧ Below w.heap.size w w' := by
  obtain ⟨bs, hbs⟩ : ∃ bs, bs = bsL rw l := ⟨_, rfl⟩
  rw [← hbs] at h4 hm hd ⊢
  obtain ⟨n, hn⟩ : ∃ n, n = bs.length := ⟨_, rfl⟩
  rw [← hn]
  have HBS0 := Aside0.mk hbs
  have HNE := Aside0.mk hn
  clear hbs hn
  have HR := Aside0.mk hr
  have HL := Aside0.mk hl
  have HRW := Aside0.mk hrw
  have H4 := Aside0.mk h4
  have HM := Aside0.mk hm
  have HD := Aside0.mk hd
  have HB0 := Aside0.mk (Below.refl w.heap.size w)
  clear hr hl hrw h4 hm hd
  go_enter Try.func51, Try.ntmps51
  go_wp2_with (first | ((with_reducible refine gate_dst (N := 14) rfl ?_); refine Kd.R_lit (Kd.int .i64) _ 3 ?hg (N := 14) ?hd (xs := ([1, 0, 0, 0] : List Int)) (inner := [.int .i64 1, .int .i64 0, .int .i64 0, .int .i64 0]) (ok := fun _ => True) (okp := fun _ => True) ?hr ?hp (fun _ hk => hk) trivial (Below.refl _ _) (Nat.le_refl _) (by simp) ?_; (case hd => rfl); (case hg => rfl); (case hr => first | (go_simp; done) | (go_simp; rfl)); (case hp => exact (Reps.one (show Kd.M (Kd.int .i64) _ _ _ 1 [.int .i64 1] from rfl) (Reps.one (show Kd.M (Kd.int .i64) _ _ _ 0 [.int .i64 0] from rfl) (Reps.one (show Kd.M (Kd.int .i64) _ _ _ 0 [.int .i64 0] from rfl) (Reps.one (show Kd.M (Kd.int .i64) _ _ _ 0 [.int .i64 0] from rfl) (Reps.none _ _)))))); intro v14 w14 ho hb hg_ hnew_; clear hg_ hnew_; have RL14 := Aside0.mk (Kd.R_lower ho (below_size HB0.out)); have HB14 := Aside0.mk (below_step HB0.out hb); obtain ⟨P14, p14, rfl⟩ := Kd.R_slice RL14.out; clear ho hb) | ((with_reducible refine gate_dst (N := 15) rfl ?_); refine Kd.R_lit (Kd.int .i64) _ 3 ?hg (N := 15) ?hd (xs := ([0, 1, 0, 0] : List Int)) (inner := [.int .i64 0, .int .i64 1, .int .i64 0, .int .i64 0]) (ok := fun _ => True) (okp := fun _ => True) ?hr ?hp (fun _ hk => hk) trivial (Below.refl _ _) (Nat.le_refl _) (by simp) ?_; (case hd => rfl); (case hg => rfl); (case hr => first | (go_simp; done) | (go_simp; rfl)); (case hp => exact (Reps.one (show Kd.M (Kd.int .i64) _ _ _ 0 [.int .i64 0] from rfl) (Reps.one (show Kd.M (Kd.int .i64) _ _ _ 1 [.int .i64 1] from rfl) (Reps.one (show Kd.M (Kd.int .i64) _ _ _ 0 [.int .i64 0] from rfl) (Reps.one (show Kd.M (Kd.int .i64) _ _ _ 0 [.int .i64 0] from rfl) (Reps.none _ _)))))); intro v15 w15 ho hb hg_ hnew_; clear hg_ hnew_; have RL15 := Aside0.mk (Kd.R_lower ho (below_size HB14.out)); have HB15 := Aside0.mk (below_step HB14.out hb); have RL14_15 := Aside0.mk (Kd.R_below RL14.out hb); obtain ⟨P15, p15, rfl⟩ := Kd.R_slice RL15.out; clear ho hb) | ((with_reducible refine gate_dst (N := 16) rfl ?_); refine Kd.R_lit (Kd.int .i64) _ 3 ?hg (N := 16) ?hd (xs := ([0, 0, 1, 0] : List Int)) (inner := [.int .i64 0, .int .i64 0, .int .i64 1, .int .i64 0]) (ok := fun _ => True) (okp := fun _ => True) ?hr ?hp (fun _ hk => hk) trivial (Below.refl _ _) (Nat.le_refl _) (by simp) ?_; (case hd => rfl); (case hg => rfl); (case hr => first | (go_simp; done) | (go_simp; rfl)); (case hp => exact (Reps.one (show Kd.M (Kd.int .i64) _ _ _ 0 [.int .i64 0] from rfl) (Reps.one (show Kd.M (Kd.int .i64) _ _ _ 0 [.int .i64 0] from rfl) (Reps.one (show Kd.M (Kd.int .i64) _ _ _ 1 [.int .i64 1] from rfl) (Reps.one (show Kd.M (Kd.int .i64) _ _ _ 0 [.int .i64 0] from rfl) (Reps.none _ _)))))); intro v16 w16 ho hb hg_ hnew_; clear hg_ hnew_; have RL16 := Aside0.mk (Kd.R_lower ho (below_size HB15.out)); have HB16 := Aside0.mk (below_step HB15.out hb); have RL14_16 := Aside0.mk (Kd.R_below RL14_15.out hb); have RL15_16 := Aside0.mk (Kd.R_below RL15.out hb); obtain ⟨P16, p16, rfl⟩ := Kd.R_slice RL16.out; clear ho hb) | ((with_reducible refine gate_dst (N := 17) rfl ?_); refine Kd.R_lit (Kd.int .i64) _ 3 ?hg (N := 17) ?hd (xs := ([0, 0, 0, 1] : List Int)) (inner := [.int .i64 0, .int .i64 0, .int .i64 0, .int .i64 1]) (ok := fun _ => True) (okp := fun _ => True) ?hr ?hp (fun _ hk => hk) trivial (Below.refl _ _) (Nat.le_refl _) (by simp) ?_; (case hd => rfl); (case hg => rfl); (case hr => first | (go_simp; done) | (go_simp; rfl)); (case hp => exact (Reps.one (show Kd.M (Kd.int .i64) _ _ _ 0 [.int .i64 0] from rfl) (Reps.one (show Kd.M (Kd.int .i64) _ _ _ 0 [.int .i64 0] from rfl) (Reps.one (show Kd.M (Kd.int .i64) _ _ _ 0 [.int .i64 0] from rfl) (Reps.one (show Kd.M (Kd.int .i64) _ _ _ 1 [.int .i64 1] from rfl) (Reps.none _ _)))))); intro v17 w17 ho hb hg_ hnew_; clear hg_ hnew_; have RL17 := Aside0.mk (Kd.R_lower ho (below_size HB16.out)); have HB17 := Aside0.mk (below_step HB16.out hb); have RL14_17 := Aside0.mk (Kd.R_below RL14_16.out hb); have RL15_17 := Aside0.mk (Kd.R_below RL15_16.out hb); have RL16_17 := Aside0.mk (Kd.R_below RL16.out hb); obtain ⟨P17, p17, rfl⟩ := Kd.R_slice RL17.out; clear ho hb) | ((with_reducible refine gate_dst (N := 18) rfl ?_); refine Kd.R_lit KS (w0 := w) w.heap.size 35 ?hg (N := 18) ?hd (xs := units) (inner := [.slice P14 4 p14, .slice P15 4 p15, .slice P16 4 p16, .slice P17 4 p17]) (ok := fun _ => True) (okp := fun _ => True) ?hr ?hp (fun _ hk => hk) trivial HB17.out (below_size HB17.out) (by decide) ?_; (case hd => rfl); (case hg => rfl); (case hr => first | (go_simp; done) | (go_simp; rfl)); (case hp => exact (Reps.one (Kd.M_row RL14_17.out) (Reps.one (Kd.M_row RL15_17.out) (Reps.one (Kd.M_row RL16_17.out) (Reps.one (Kd.M_row RL17.out) (Reps.none _ _)))))); intro v18 w18 ho hb hg_ hnew_; clear hg_ hnew_; have RB0 := Aside0.mk ho; have HB18 := Aside0.mk hb; clear ho hb))
  go_loopg [3, 21] l.length (fun kq v3 v21 w' => ∃ (j : Nat) (y : Int), v21 = .int .i64 y ∧ Aside0 (y = (j : Int)) ∧ Aside0 (j + kq = l.length) ∧ Aside0 (Kd.R KS 35 w' w.heap.size (fun _ => True) v3 (bsL rw (l.take j))) ∧ Aside0 (Below w.heap.size w w'))
  case atStart => exact ⟨0, 0, rfl, ⟨rfl⟩, ⟨Nat.zero_add _⟩, RB0, HB18⟩
  case round =>
    clear RB0 HB18 HB17 HB16 HB15 HB14 HB0 RL14_17 RL15_17 RL16_17 RL17
    obtain ⟨j, y, rfl, HJ, HK, RB, HB⟩ := hrel
    cases gk with
    | zero =>
      have yn : decide (y < (l.length : Int)) = false := decide_eq_false (by have := HJ.out; have := HK.out; omega)
      have RB1 := Aside0.mk (show Kd.R KS 35 wr w.heap.size (fun _ => True) u3 bs by rw [HBS0.out]; have e : l.take j = l := List.take_of_length_le (by have := HK.out; omega); rw [e] at RB; exact RB.out)
      have HBL := Aside0.mk (show 4 ≤ n ∧ n ≤ 10 by
        rw [HNE.out, HBS0.out]
        unfold bsL
        rw [List.length_append, List.length_map]
        have h1 := List.length_filter_le (fun s : S29 => s.f0 != 1) l
        have h4 := HL.out
        show 4 ≤ 4 + _ ∧ 4 + _ ≤ 10
        omega)
      obtain ⟨gB, cB, rfl, _, _, _⟩ := Kd.R_form RB1.out (by have := HBL.out; have := HNE.out; omega)
      have HC1 := Aside0.mk (show bs.length ≤ cB ∧ Kd.C KS wr (some ⟨gB, 0, none⟩) bs.length bs from ⟨(Kd.R_reads' RB1.out).2.1, (Kd.R_reads' RB1.out).2.2⟩)
      rw [← HNE.out] at HC1 ⊢
      have HB1 := HB
      have HB2 := Aside0.mk (Below.refl wr.heap.size wr)
      clear RB RB1 HB HRW
      generalize hW1 : wr = W1 at HC1 HB1 HB2 ⊢
      clear hW1
      go_wp2_with (first | ((with_reducible refine gate_dst (N := 34) rfl ?_); refine Kd.R_lit (Kd.tag (fun _ => 0) KS) _ 35 ?hg (N := 34) ?hd (xs := ([] : List (List Int × Nat))) (inner := []) (ok := fun _ => True) (okp := fun _ => True) ?hr ?hp (fun _ hk => hk) trivial (Below.refl _ _) (Nat.le_refl _) (by simp) ?_; (case hd => rfl); (case hg => rfl); (case hr => first | (go_simp; done) | (go_simp; rfl)); (case hp => exact (Reps.none _ _)); intro v34 w34 ho hb hg_ hnew_; clear hg_ hnew_; have SO := Aside0.mk (show Kd.S KS 35 w34 W1.heap.size (fun _ => True) v34 [] from ⟨fun _ => 0, ho⟩); have HBo := Aside0.mk hb; clear ho hb))
      go_loopg [6, 37] n (fun kq v6 v37 w' => ∃ (i : Nat) (x : Int), v37 = .int .i64 x ∧ Aside0 (x = (i : Int)) ∧ Aside0 (i + kq = n) ∧ Aside0 (Kd.S KS 35 w' W1.heap.size (fun _ => True) v6 (l1 wd bs i)) ∧ Aside0 (Below W1.heap.size W1 w'))
      case atStart => exact ⟨0, 0, rfl, ⟨rfl⟩, ⟨Nat.zero_add _⟩, SO, HBo⟩
      case round =>
        clear SO HBo HB2
        obtain ⟨i, x, rfl, HI, HKi, SO, HB⟩ := hrel
        cases gk with
        | zero =>
          have xn : decide (x < (n : Int)) = false := decide_eq_false (by have := HI.out; have := HKi.out; omega)
          have SO1 := Aside0.mk (show Kd.S KS 35 wr W1.heap.size (fun _ => True) u6 (l1 wd bs n) by rw [show n = i by have := HKi.out; omega]; exact SO.out)
          have hl1 := l1_len wd bs n (by have := HBL.out; omega)
          have HSo := Aside0.mk (sortC wr W1.heap.size u6 (l1 wd bs n) SO1.out (l1_nodup wd bs n) (fun x hx => by have := hl1.2 x hx; omega) (by have := hl1.1; have := HBL.out; omega))
          clear hl1
          go_wp2_with (first | (go_at_call 73; (with_reducible refine HSo.out.mono ?_); rintro e w9 ⟨rfl, hs_, hb_⟩; have SO9 := Aside0.mk hs_; have HB9 := Aside0.mk (hb_ W1 rfl HB.out); clear hs_ hb_))
          go_ret
          exact ⟨_, rfl, Kd.S_lower SO9.out (below_size HB1.out), below_step HB1.out HB9.out⟩
        | succ k1 =>
          have x0 : 0 ≤ x := by have := HI.out; omega
          have xl : x < (n : Int) := by have := HI.out; have := HKi.out; omega
          have xn : decide (x < (n : Int)) = true := decide_eq_true xl
          have xb : x < (n : Int) := by exact xl
          have xc : x ≤ (cB : Int) := by have := HC1.out.1; omega
          obtain ⟨ad_, PA1, cPA1, e_, q8, hc_, hr_⟩ := at_L2 HC1.out.2 x x0 xb
          cases e_
          replace q8 := (HB.out.cell (World.block_lt_of_cell? W1 _ q8)).trans q8
          obtain ⟨a, ha⟩ : ∃ a, a = rd_L2 bs x := ⟨_, rfl⟩
          rw [← ha] at q8 hc_ hr_
          have HCa := Aside0.mk (show a.length ≤ cPA1 ∧ Kd.C (Kd.int .i64) W1 PA1 a.length a from ⟨hc_, hr_⟩)
          have HMa := Aside0.mk (show a ∈ bs by rw [ha]; exact mem_rd bs x x0 (by have := HNE.out; omega))
          have HA := Aside0.mk (show l2 wd bs a i (l1 wd bs i) = l1 wd bs (i + 1) by rw [ha, HI.out]; rfl)
          have HI1 := Aside0.mk (show wrap64 (x + 1) = ((i + 1 : Nat) : Int) by have := HI.out; have := HKi.out; have := HBL.out; unfold wrap64; omega)
          have xi : x.toNat = i := by have := HI.out; omega
          rw [xi, add_at, Nat.zero_add] at q8
          clear ha hc_ hr_
          go_wp2
          go_loopg [6, 46] i (fun kq v6 v46 w' => ∃ (k : Nat) (y : Int), v46 = .int .i64 y ∧ Aside0 (y = (k : Int)) ∧ Aside0 (k + kq = i) ∧ Aside0 (Kd.S KS 35 w' W1.heap.size (fun _ => True) v6 (l2 wd bs a k (l1 wd bs i))) ∧ Aside0 (Below W1.heap.size W1 w'))
          case atStart => exact ⟨0, 0, rfl, ⟨rfl⟩, ⟨Nat.zero_add _⟩, SO, HB⟩
          case round =>
            clear SO HB q8
            obtain ⟨k, y, rfl, HY, HKk, SO, HB⟩ := hrel
            cases gk with
            | zero =>
              have yn : decide (y < (i : Int)) = false := decide_eq_false (by have := HY.out; have := HKk.out; omega)
              have SO1 := Aside0.mk (show Kd.S KS 35 wr W1.heap.size (fun _ => True) u6 (l1 wd bs (i + 1)) by rw [show k = i by have := HKk.out; omega, HA.out] at SO; exact SO.out)
              go_wp2
              go_roundg k1
              case measure => have := HKi.out; omega
              case rel => exact ⟨i + 1, _, rfl, HI1, ⟨by have := HKi.out; omega⟩, SO1, HB⟩
            | succ k2 =>
              have y0 : 0 ≤ y := by have := HY.out; omega
              have yl : y < (i : Int) := by have := HY.out; have := HKk.out; omega
              have yn : decide (y < (i : Int)) = true := decide_eq_true yl
              have yb : y < (n : Int) := by have := HKi.out; omega
              have yc : y ≤ (cB : Int) := by have := HC1.out.1; omega
              obtain ⟨ad_, PB1, cPB1, e_, q10, hc_, hr_⟩ := at_L2 HC1.out.2 y y0 yb
              cases e_
              replace q10 := (HB.out.cell (World.block_lt_of_cell? W1 _ q10)).trans q10
              obtain ⟨b, hb⟩ : ∃ b, b = rd_L2 bs y := ⟨_, rfl⟩
              rw [← hb] at q10 hc_ hr_
              have HCb := Aside0.mk (show b.length ≤ cPB1 ∧ Kd.C (Kd.int .i64) W1 PB1 b.length b from ⟨hc_, hr_⟩)
              have HMb := Aside0.mk (show b ∈ bs by rw [hb]; exact mem_rd bs y y0 (by have := HNE.out; omega))
              have HBb := Aside0.mk (show l3 wd bs a b k (l2 wd bs a k (l1 wd bs i)) = l2 wd bs a (k + 1) (l1 wd bs i) by rw [hb, HY.out]; rfl)
              have HY1 := Aside0.mk (show wrap64 (y + 1) = ((k + 1 : Nat) : Int) by have := HY.out; have := HKk.out; have := HKi.out; have := HBL.out; unfold wrap64; omega)
              have yk : y.toNat = k := by have := HY.out; omega
              rw [yk, add_at, Nat.zero_add] at q10
              clear hb hc_ hr_
              go_wp2
              go_loopg [6, 55] k (fun kq v6 v55 w' => ∃ (j : Nat) (z : Int), v55 = .int .i64 z ∧ Aside0 (z = (j : Int)) ∧ Aside0 (j + kq = k) ∧ Aside0 (Kd.S KS 35 w' W1.heap.size (fun _ => True) v6 (l3 wd bs a b j (l2 wd bs a k (l1 wd bs i)))) ∧ Aside0 (Below W1.heap.size W1 w'))
              case atStart => exact ⟨0, 0, rfl, ⟨rfl⟩, ⟨Nat.zero_add _⟩, SO, HB⟩
              case round =>
                clear SO HB q10
                obtain ⟨j, z, rfl, HZ, HKj, SO, HB⟩ := hrel
                cases gk with
                | zero =>
                  have zn : decide (z < (k : Int)) = false := decide_eq_false (by have := HZ.out; have := HKj.out; omega)
                  have SO1 := Aside0.mk (show Kd.S KS 35 wr W1.heap.size (fun _ => True) u6 (l2 wd bs a (k + 1) (l1 wd bs i)) by rw [show j = k by have := HKj.out; omega, HBb.out] at SO; exact SO.out)
                  go_wp2
                  go_roundg k2
                  case measure => have := HKk.out; omega
                  case rel => exact ⟨k + 1, _, rfl, HY1, ⟨by have := HKk.out; omega⟩, SO1, HB⟩
                | succ k3 =>
                  have z0 : 0 ≤ z := by have := HZ.out; omega
                  have zl : z < (k : Int) := by have := HZ.out; have := HKj.out; omega
                  have zn : decide (z < (k : Int)) = true := decide_eq_true zl
                  have zb : z < (n : Int) := by have := HKk.out; have := HKi.out; omega
                  have zc : z ≤ (cB : Int) := by have := HC1.out.1; omega
                  obtain ⟨ad_, PD1, cPD1, e_, q12, hc_, hr_⟩ := at_L2 HC1.out.2 z z0 zb
                  cases e_
                  replace q12 := (HB.out.cell (World.block_lt_of_cell? W1 _ q12)).trans q12
                  obtain ⟨d, hd⟩ : ∃ d, d = rd_L2 bs z := ⟨_, rfl⟩
                  rw [← hd] at q12 hc_ hr_
                  have HCd := Aside0.mk (show d.length ≤ cPD1 ∧ Kd.C (Kd.int .i64) W1 PD1 d.length d from ⟨hc_, hr_⟩)
                  have HMd := Aside0.mk (show d ∈ bs by rw [hd]; exact mem_rd bs z z0 (by have := HNE.out; omega))
                  have HDd := Aside0.mk (show stepR wd bs (l3 wd bs a b j (l2 wd bs a k (l1 wd bs i))) a b d = l3 wd bs a b (j + 1) (l2 wd bs a k (l1 wd bs i)) by rw [hd, HZ.out]; rfl)
                  have HZ1 := Aside0.mk (show wrap64 (z + 1) = ((j + 1 : Nat) : Int) by have := HZ.out; have := HKj.out; have := HKk.out; have := HKi.out; have := HBL.out; unfold wrap64; omega)
                  rw [add_at, Nat.zero_add] at q12
                  clear hd hc_ hr_
                  have HLn := Aside0.mk (fun W (hb : Below W1.heap.size W1 W) => Man.lineOf W PA1 PB1 PD1 cPA1 cPB1 cPD1 a b d (Kd.C_below HCa.out.2 hb) (Kd.C_below HCb.out.2 hb) (Kd.C_below HCd.out.2 hb) (H4.out a HMa.out) (H4.out b HMb.out) (H4.out d HMd.out) (HM.out a HMa.out b HMb.out d HMd.out))
                  have HWd := Aside0.mk (fun x hx => HD.out a HMa.out b HMb.out d HMd.out x hx)
                  have HLL := Aside0.mk (lineL_len (Man.ml a b d))
                  obtain ⟨o, ho⟩ : ∃ o, o = l3 wd bs a b j (l2 wd bs a k (l1 wd bs i)) := ⟨_, rfl⟩
                  have HOL := Aside0.mk (show o.length ≤ 1110 ∧ ∀ x ∈ o, x.length = 4 by
                    have hx := HKi.out
                    have hy := HKk.out
                    have hz := HKj.out
                    have hn := HBL.out
                    have t1 := l1_len wd bs i (by omega)
                    have t2 := l2_len wd bs a (l1 wd bs i) k (by omega)
                    have t3 := l3_len wd bs a b (l2 wd bs a k (l1 wd bs i)) j
                    rw [ho]
                    exact ⟨by omega, t3.2 (t2.2 t1.2)⟩)
                  rw [← ho] at SO HDd
                  have hst := HDd.out
                  unfold stepR at hst
                  have HST := Aside0.mk hst.symm
                  clear hst
                  obtain ⟨r, hr⟩ : ∃ r, r = Man.lineL (Man.ml a b d) := ⟨_, rfl⟩
                  rw [← hr] at HST HLn HWd HLL
                  obtain ⟨oN, hoN⟩ : ∃ oN, oN = l3 wd bs a b (j + 1) (l2 wd bs a k (l1 wd bs i)) := ⟨_, rfl⟩
                  rw [← hoN] at HST
                  have HoN := Aside0.mk hoN
                  obtain ⟨Ao, co, rfl⟩ := Kd.S_slice SO.out
                  have SOb := Aside0.mk (show Kd.S KS 35 wr W1.heap.size (fun k_ => k_ < wr.heap.size) (.slice Ao o.length co) o from Kd.S_mono (Kd.S_bound SO.out) (fun _ hk => hk.2.2.1))
                  clear ho hr hoN HDd HM HD SO
                  by_cases hre : r = []
                  · have HRE := Aside0.mk hre
                    have HEq := Aside0.mk (show oN = o by rw [HST.out, if_pos hre])
                    have hnil : ∀ W : World, Sem.run Try.prog (binOp .eql 35 (.slice none 0 0) (.slice none 0 0)) W = .ok (.bool true) W := fun W => by kernel_rfl
                    clear hre
                    go_wp2_with (first | (go_at_call 68; (with_reducible refine (HLn.out _ HB.out).mono ?_); rintro e w63 ⟨v63, rfl, hr_, hn_, hb_⟩; obtain rfl := hn_ HRE.out; have SO3 := Aside0.mk (Kd.S_below SOb.out hb_); have HB3 := Aside0.mk (below_step HB.out hb_); clear hr_ hn_ hb_) | ((with_reducible refine gate_dst (N := 13) rfl ?_); refine box_event ?hg (N := 13) ?hd (cs := #[.slice none 0 0]) (t := 35) ?hr ?_; (case hd => rfl); (case hg => rfl); (case hr => first | (go_simp; done) | (go_simp; rfl)); intro g13 hg13 wg13 hbox hb; have hbb := Man.below_one hg13 hb (.slice none 0 0); have SO4 := Aside0.mk (Kd.S_below SO3.out hbb); have HB4 := Aside0.mk (below_step HB3.out hbb); have hc13 : wg13.cell? ⟨g13, 0, none⟩ = some (.slice none 0 0) := (blk_cell hbox 0).trans rfl; have hf13 := blk_frozen hbox 0; clear hbox hb hg13 hbb))
                    go_roundg k3
                    case measure => have := HKj.out; omega
                    case rel => exact ⟨j + 1, _, rfl, HZ1, ⟨by have := HKj.out; omega⟩, ⟨by rw [← HoN.out, HEq.out]; exact Kd.S_mono SO4.out (fun _ _ => trivial)⟩, HB4⟩
                  · have HRN := Aside0.mk (show r.length = 4 from HLL.out.resolve_left hre)
                    have HST2 := Aside0.mk (show oN = if (bs.any fun x => decide (wd r x < 0)) = true then o else if (o.any fun x => decide (x = r)) = true then o else o ++ [r] by rw [HST.out, if_neg hre])
                    have HWd2 := Aside0.mk (fun x hx => HWd.out x hx hre)
                    have hnn : ∀ (W : World) (g c' n' : Nat), Sem.run Try.prog (binOp .eql 35 (.slice (some ⟨g, 0, none⟩) n' c') (.slice none 0 0)) W = .ok (.bool false) W := fun W g c' n' => by kernel_rfl
                    clear hre
                    go_upto_region 19 with (first | (go_at_call 68; (with_reducible refine (HLn.out _ HB.out).mono ?_); rintro e w63 ⟨v63, rfl, hr_, hn_, hb_⟩; obtain ⟨gr, cr, rfl, _, _, _⟩ := Kd.R_form hr_ (by have := HRN.out; omega); have RW3 := Aside0.mk hr_; have SO3 := Aside0.mk (Kd.S_below SOb.out hb_); have HB3 := Aside0.mk (below_step HB.out hb_); clear hr_ hn_ hb_) | ((with_reducible refine gate_dst (N := 13) rfl ?_); refine box_event ?hg (N := 13) ?hd (cs := #[.slice none 0 0]) (t := 35) ?hr ?_; (case hd => rfl); (case hg => rfl); (case hr => first | (go_simp; done) | (go_simp; rfl)); intro g13 hg13 wg13 hbox hb; have hbb := Man.below_one hg13 hb (.slice (some ⟨gr, 0, none⟩) r.length cr); have SO4 := Aside0.mk (Kd.S_below SO3.out hbb); have RW4 := Aside0.mk (Kd.R_below RW3.out hbb); have HB4 := Aside0.mk (below_step HB3.out hbb); have BK13 := Aside0.mk (blk_put (cs' := #[.slice (some ⟨gr, 0, none⟩) r.length cr]) hbox 0 (.slice (some ⟨gr, 0, none⟩) r.length cr) rfl); have hc13 : wg13.cell? ⟨g13, 0, none⟩ = some (.slice none 0 0) := (blk_cell hbox 0).trans rfl; have hf13 := blk_frozen hbox 0; clear hbox hb hg13 hbb))
                    generalize (wg13.setCell ⟨g13, 0, none⟩ (.slice (some ⟨gr, 0, none⟩) r.length cr)) = W4 at SO4 RW4 HB4 BK13 ⊢
                    have c13 : W4.cell? ⟨g13, 0, none⟩ = some (.slice (some ⟨gr, 0, none⟩) r.length cr) := (blk_cell BK13.out 0).trans rfl
                    clear hc13 hf13 RW3 SO3 HB3
                    have eg1 := enters_of Try.func70 (by kernel_rfl) rfl
                    have eg2 := enters_of Try.func71 (by kernel_rfl) rfl
                    have HF1 := Aside0.mk (ContainsFunc (fun x => decide (wd r x < 0)) 70 #[.pointer (some ⟨g13, 0, none⟩)] eg1 (some ⟨gB, 0, none⟩) cB bs W4 (clo1 g13 (some ⟨gr, 0, none⟩) cr r (wd r) kd W4 BK13.out (Kd.R_reads' RW4.out).2.2 (Kd.R_reads' RW4.out).2.1 bs HWd2.out) (by have h := Kd.C_below HC1.out.2 HB4.out; rw [HNE.out] at h; exact h))
                    rw [← HNE.out] at HF1
                    have HF2 := Aside0.mk (fun W (hb : Below W4.heap.size W4 W) => ContainsFunc (fun x => decide (x = r)) 71 #[.pointer (some ⟨g13, 0, none⟩)] eg2 Ao co o W (clo2 g13 (some ⟨gr, 0, none⟩) cr r W (blk_below BK13.out hb) (Kd.C_below (Kd.R_reads' RW4.out).2.2 hb) HRN.out o HOL.out.2) (Kd.S_reads' (Kd.S_below SO4.out hb)).2.2)
                    clear eg1 eg2
                    obtain ⟨a1, ha1⟩ : ∃ a1, a1 = (bs.any fun x => decide (wd r x < 0)) := ⟨_, rfl⟩
                    rw [← ha1] at HF1 HST2
                    cases a1 with
                    | true =>
                      have HEq := Aside0.mk (show oN = o by rw [HST2.out, if_pos rfl])
                      clear ha1
                      go_wp2_with (first | (go_at_call 69; (with_reducible refine HF1.out.mono ?_); rintro e w5 ⟨rfl, hb_⟩; have SO5 := Aside0.mk (Kd.S_below SO4.out hb_); have HB5 := Aside0.mk (below_step HB4.out hb_); clear hb_))
                      go_roundg k3
                      case measure => have := HKj.out; omega
                      case rel => exact ⟨j + 1, _, rfl, HZ1, ⟨by have := HKj.out; omega⟩, ⟨by rw [← HoN.out, HEq.out]; exact Kd.S_mono SO5.out (fun _ _ => trivial)⟩, HB5⟩
                    | false =>
                      obtain ⟨a2, ha2⟩ : ∃ a2, a2 = (o.any fun x => decide (x = r)) := ⟨_, rfl⟩
                      rw [← ha2] at HF2 HST2
                      cases a2 with
                      | true =>
                        have HEq := Aside0.mk (show oN = o by rw [HST2.out, if_neg (by decide), if_pos rfl])
                        clear ha1 ha2
                        go_wp2_with (first | (go_at_call 69; (with_reducible refine HF1.out.mono ?_); rintro e w5 ⟨rfl, hb_⟩; have HBx := Aside0.mk hb_; have SO5 := Aside0.mk (Kd.S_below SO4.out hb_); have HB5 := Aside0.mk (below_step HB4.out hb_); clear hb_) | (go_at_call 69; (with_reducible refine (HF2.out _ HBx.out).mono ?_); rintro e w6 ⟨rfl, hb_⟩; have SO6 := Aside0.mk (Kd.S_below SO5.out hb_); have HB6 := Aside0.mk (below_step HB5.out hb_); clear hb_))
                        go_roundg k3
                        case measure => have := HKj.out; omega
                        case rel => exact ⟨j + 1, _, rfl, HZ1, ⟨by have := HKj.out; omega⟩, ⟨by rw [← HoN.out, HEq.out]; exact Kd.S_mono SO6.out (fun _ _ => trivial)⟩, HB6⟩
                      | false =>
                        have HEq := Aside0.mk (show oN = o ++ [r] by rw [HST2.out, if_neg (by decide), if_neg (by decide)])
                        clear ha1 ha2
                        go_wp2_with (first | (go_at_call 69; (with_reducible refine HF1.out.mono ?_); rintro e w5 ⟨rfl, hb_⟩; have HBx := Aside0.mk hb_; have SO5 := Aside0.mk (Kd.S_below SO4.out hb_); have RW5 := Aside0.mk (Kd.R_below RW4.out hb_); have BK5 := Aside0.mk (blk_below BK13.out hb_); have HB5 := Aside0.mk (below_step HB4.out hb_); clear hb_) | (go_at_call 69; (with_reducible refine (HF2.out _ HBx.out).mono ?_); rintro e w6 ⟨rfl, hb_⟩; have SO6 := Aside0.mk (Kd.S_below SO5.out hb_); have RW6 := Aside0.mk (Kd.R_below RW5.out hb_); have BK6 := Aside0.mk (blk_below BK5.out hb_); have HB6 := Aside0.mk (below_step HB5.out hb_); have c6 : w6.cell? ⟨g13, 0, none⟩ = some (.slice (some ⟨gr, 0, none⟩) r.length cr) := (blk_cell BK6.out 0).trans rfl; clear hb_) | ((with_reducible refine gate_builtin (b := .append) (xs := #[.tmp 75, .tmp 77]) rfl ?_); at_builtin; refine Kd.S_append KS (w0 := W1) W1.heap.size rfl (.tmp 75) (.tmp 77) 45 35 (.slice none 0 0) 24 rfl Try.underlying45 info35 rfl (by decide) (by omega) (.slice Ao o.length co) o r [.slice (some ⟨gr, 0, none⟩) r.length cr] (fun _ => True) (fun k_ => some k_ = (.slice (some ⟨gr, 0, none⟩) r.length cr : Value).ownBlock) rfl rfl ?aP ?aK (fun _ _ => trivial) ?aO ?aB ?aS ?aL ?_; (case aP => exact Kd.M_row (Kd.R_tight rfl (Kd.R_lower RW6.out (below_size HB.out)))); (case aK => exact fun k_ hk_ => ⟨trivial, by obtain ⟨_, hc_⟩ := Kd.R_typed RW6.out k_ hk_.symm; exact Kd.S_ne SO6.out hc_ (by decide)⟩); (case aO => exact Kd.S_mono SO6.out (fun k_ hk_ => ⟨trivial, fun e_ => absurd (Kd.R_base RW6.out k_ e_.symm) (by omega)⟩)); (case aB => exact HB6.out); (case aS => exact below_size HB6.out); (case aL => have := HOL.out.1; omega); intro v78 w78 ho hb hg hat; have SO7 := Aside0.mk ho; have HB7 := Aside0.mk hb; clear ho hb hg hat))
                        go_roundg k3
                        case measure => have := HKj.out; omega
                        case rel => exact ⟨j + 1, _, rfl, HZ1, ⟨by have := HKj.out; omega⟩, ⟨by rw [← HoN.out, HEq.out]; exact SO7.out⟩, HB7⟩
    | succ k1 =>
      have y0 : 0 ≤ y := by have := HJ.out; omega
      have yl : y < (l.length : Int) := by have := HJ.out; have := HK.out; omega
      have yn : decide (y < (l.length : Int)) = true := decide_eq_true yl
      have HJ1 := Aside0.mk (show wrap64 (y + 1) = ((j + 1 : Nat) : Int) by have := HJ.out; have := HK.out; have := HL.out; unfold wrap64; omega)
      obtain ⟨ad, e1, x0, x1, x2⟩ := at_T29 HR.out y y0 yl
      cases e1
      replace x0 := (HB.out.cell (World.block_lt_of_cell? w _ x0)).trans x0
      replace x1 := (HB.out.cell (World.block_lt_of_cell? w _ x1)).trans x1
      replace x2 := (HB.out.cell (World.block_lt_of_cell? w _ x2)).trans x2
      obtain ⟨s, hs⟩ : ∃ s, s = rd_T29 l y := ⟨_, rfl⟩
      rw [← hs] at x0 x1 x2
      have hjl : j < l.length := by have := HK.out; omega
      have hsg : l[j] = s := by
        rw [hs]
        unfold rd_T29
        rw [List.getD_eq_getElem?_getD, HJ.out, Int.toNat_natCast, List.getElem?_eq_getElem hjl]
        rfl
      have htk : l.take (j + 1) = l.take j ++ [s] := by rw [List.take_succ_eq_append_getElem hjl, hsg]
      have HSM := Aside0.mk (show s ∈ l by rw [← hsg]; exact List.getElem_mem hjl)
      have HLen := Aside0.mk (show (bsL rw (l.take j)).length ≤ 10 by
        unfold bsL
        rw [List.length_append, List.length_map]
        have h1 := List.length_filter_le (fun s : S29 => s.f0 != 1) (l.take j)
        have h2 := List.length_take_le j l
        have h3 := HK.out
        have h4 := HL.out
        show 4 + _ ≤ 10
        omega)
      by_cases hf : s.f0 = 1
      · have HBS := Aside0.mk (show bsL rw (l.take j) = bsL rw (l.take (j + 1)) by unfold bsL; rw [htk, List.filter_append]; simp [hf])
        have f0 : (s.f0 != 1) = false := by rw [hf]; rfl
        clear hs hsg htk hf hjl
        go_upto_region 5 with (first | ((with_reducible refine gate_dst (N := 5) rfl ?_); refine box_event ?hg (N := 5) ?hd (cs := #[.int .i64 0, .int .i64 0, .int .i64 0]) (t := 29) ?hr ?_; (case hd => rfl); (case hg => rfl); (case hr => first | (go_simp; done) | (go_simp; rfl)); intro g5 hg5 wg5 hbox hb; have hbb := Man.below_beside (Below.refl wr.heap.size wr) hg5 hb (.int .i64 s.f0) (.int .i64 s.f1) (.int .i64 s.f2); have RB5 := Aside0.mk (Kd.R_below RB.out hbb); have HB5 := Aside0.mk (below_step HB.out hbb); have BK5 := Aside0.mk (blk_put (cs' := #[.int .i64 s.f0, .int .i64 s.f1, .int .i64 s.f2]) (blk_put (cs' := #[.int .i64 s.f0, .int .i64 s.f1, .int .i64 0]) (blk_put (cs' := #[.int .i64 s.f0, .int .i64 0, .int .i64 0]) hbox 0 (.int .i64 s.f0) rfl) 1 (.int .i64 s.f1) rfl) 2 (.int .i64 s.f2) rfl); have hc5_0 : wg5.cell? ⟨g5, 0, none⟩ = some (.int .i64 0) := (blk_cell hbox 0).trans rfl; have hf5_0 := blk_frozen hbox 0; have hc5_1 : wg5.cell? ⟨g5, 1, none⟩ = some (.int .i64 0) := (blk_cell hbox 1).trans rfl; have hf5_1 := blk_frozen hbox 1; have hc5_2 : wg5.cell? ⟨g5, 2, none⟩ = some (.int .i64 0) := (blk_cell hbox 2).trans rfl; have hf5_2 := blk_frozen hbox 2; clear hbox hb hg5 hbb))
        generalize (((wg5.setCell ⟨g5, 0, none⟩ (.int .i64 s.f0)).setCell ⟨g5, 1, none⟩ (.int .i64 s.f1)).setCell ⟨g5, 2, none⟩ (.int .i64 s.f2)) = W5 at BK5 RB5 HB5 ⊢
        have q0 : W5.cell? ⟨g5, 0, none⟩ = some (.int .i64 s.f0) := (blk_cell BK5.out 0).trans rfl
        clear hc5_0 hc5_1 hc5_2 hf5_0 hf5_1 hf5_2
        go_wp2
        go_roundg k1
        case measure => have := HK.out; omega
        case rel => exact ⟨j + 1, wrap64 (y + 1), rfl, HJ1, ⟨by have := HK.out; omega⟩, by rw [HBS.out] at RB5; exact RB5, HB5⟩
      · have HBS := Aside0.mk (show bsL rw (l.take j) ++ [rw s] = bsL rw (l.take (j + 1)) by unfold bsL; rw [htk, List.filter_append, List.map_append, ← List.append_assoc]; congr 1; simp [hf])
        have f0 : (s.f0 != 1) = true := bne_iff_ne.2 hf
        have HW := Aside0.mk (fun W => impl_weightsOf.calls kw s.f0 s.f1 s.f2 (rw s) W (HRW.out s HSM.out hf))
        have HR4 := Aside0.mk (show (rw s).length = 4 from H4.out (rw s) (by rw [HBS0.out]; unfold bsL; exact List.mem_append_right _ (List.mem_map.2 ⟨s, List.mem_filter.2 ⟨HSM.out, f0⟩, rfl⟩)))
        clear hs hsg htk hf hjl
        go_upto_region 5 with (first | ((with_reducible refine gate_dst (N := 5) rfl ?_); refine box_event ?hg (N := 5) ?hd (cs := #[.int .i64 0, .int .i64 0, .int .i64 0]) (t := 29) ?hr ?_; (case hd => rfl); (case hg => rfl); (case hr => first | (go_simp; done) | (go_simp; rfl)); intro g5 hg5 wg5 hbox hb; have hbb := Man.below_beside (Below.refl wr.heap.size wr) hg5 hb (.int .i64 s.f0) (.int .i64 s.f1) (.int .i64 s.f2); have RB5 := Aside0.mk (Kd.R_below RB.out hbb); have HB5 := Aside0.mk (below_step HB.out hbb); have BK5 := Aside0.mk (blk_put (cs' := #[.int .i64 s.f0, .int .i64 s.f1, .int .i64 s.f2]) (blk_put (cs' := #[.int .i64 s.f0, .int .i64 s.f1, .int .i64 0]) (blk_put (cs' := #[.int .i64 s.f0, .int .i64 0, .int .i64 0]) hbox 0 (.int .i64 s.f0) rfl) 1 (.int .i64 s.f1) rfl) 2 (.int .i64 s.f2) rfl); have hc5_0 : wg5.cell? ⟨g5, 0, none⟩ = some (.int .i64 0) := (blk_cell hbox 0).trans rfl; have hf5_0 := blk_frozen hbox 0; have hc5_1 : wg5.cell? ⟨g5, 1, none⟩ = some (.int .i64 0) := (blk_cell hbox 1).trans rfl; have hf5_1 := blk_frozen hbox 1; have hc5_2 : wg5.cell? ⟨g5, 2, none⟩ = some (.int .i64 0) := (blk_cell hbox 2).trans rfl; have hf5_2 := blk_frozen hbox 2; clear hbox hb hg5 hbb))
        generalize (((wg5.setCell ⟨g5, 0, none⟩ (.int .i64 s.f0)).setCell ⟨g5, 1, none⟩ (.int .i64 s.f1)).setCell ⟨g5, 2, none⟩ (.int .i64 s.f2)) = W5 at BK5 RB5 HB5 ⊢
        have q0 : W5.cell? ⟨g5, 0, none⟩ = some (.int .i64 s.f0) := (blk_cell BK5.out 0).trans rfl
        have q1 : W5.cell? ⟨g5, 1, none⟩ = some (.int .i64 s.f1) := (blk_cell BK5.out 1).trans rfl
        have q2 : W5.cell? ⟨g5, 2, none⟩ = some (.int .i64 s.f2) := (blk_cell BK5.out 2).trans rfl
        clear hc5_0 hc5_1 hc5_2 hf5_0 hf5_1 hf5_2
        go_wp2_with (first | (go_at_call 65; (with_reducible refine (HW.out _).mono ?_); rintro e w6 ⟨v30, rfl, hr_, hb_⟩; obtain ⟨P30, p30, rfl⟩ := Kd.R_slice hr_; have RW6 := Aside0.mk (Kd.R_lower hr_ (below_size HB5.out)); have RB6 := Aside0.mk (Kd.R_below RB5.out hb_); have HB6 := Aside0.mk (below_step HB5.out hb_); clear hr_ hb_) | ((with_reducible refine gate_builtin (b := .append) (xs := #[.tmp 28, .tmp 31]) rfl ?_); at_builtin; refine Kd.R_append KS (w0 := w) w.heap.size rfl (.tmp 28) (.tmp 31) 45 35 (.slice none 0 0) 24 rfl Try.underlying45 info35 rfl (by decide) (by omega) _ (bsL rw (l.take j)) (rw s) [.slice P30 (rw s).length p30] (fun _ => True) (fun k_ => some k_ = (.slice P30 (rw s).length p30 : Value).ownBlock) rfl rfl ?aP ?aK (fun _ _ => trivial) ?aO ?aB ?aS ?aL ?_; (case aP => exact Kd.M_row (Kd.R_tight rfl RW6.out)); (case aK => exact fun k_ hk_ => ⟨trivial, by obtain ⟨_, hc_⟩ := Kd.R_typed RW6.out k_ hk_.symm; exact Kd.R_ne RB6.out hc_ (by decide)⟩); (case aO => exact RB6.out); (case aB => exact HB6.out); (case aS => exact below_size HB6.out); (case aL => have := HLen.out; omega); intro v32 w32 ho hb hg hat; rw [HBS.out] at ho; have RB7 := Aside0.mk ho; have HB7 := Aside0.mk hb; clear ho hb hg hat))
        go_roundg k1
        case measure => have := HK.out; omega
        case rel => exact ⟨j + 1, wrap64 (y + 1), rfl, HJ1, ⟨by have := HK.out; omega⟩, RB7, HB7⟩
end
end Go.Proofs.Ytmbninbecclbiaa.ManR

end
