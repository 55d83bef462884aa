/- The law FnExactTriangleOf as a call: it answers true; no condition but that the rows can be read. -/
import Derived.Test.YtlgdhmjoemdmlaaManRows
import Derived.Test.YtlgdhmjoemdmlaaSemA
import Derived.Test.YtlgdhmjoemdmlaaSemTri
import Derived.Test.YtlgdhmjoemdmlaaPAx15
import Derived.Test.YtlgdhmjoemdmlaaPAx14
import Derived.Test.YtlgdhmjoemdmlaaPAx7
import Derived.Test.YtlgdhmjoemdmlaaPAx13
import Derived.Test.YtlgdhmjoemdmlaaPAx6
import Derived.Test.YtlgdhmjoemdmlaaPAx1
namespace Go.Proofs.Ytlgdhmjoemdmlaa.Man
open Go.RowKit Go.Proofs.Ytlgdhmjoemdmlaa.PA Go.Proofs.YtlgdhmjoemdmlaaW.PrintWords Go.Proofs.YtlgdhmjoemdmlaaW.PrintLast Go.Proofs.YtlgdhmjoemdmlaaW.PrintMore
set_option linter.unusedVariables false
set_option linter.unusedSimpArgs false

/-- A row of the call's own. -/
def RW (w W : World) (v : Value) (l : List Int) : Prop := Kd.R (Kd.int .i64) 3 W w.heap.size (fun k => some k = v.ownBlock) v l
section
variable {w W W' : World} {v v0 v1 v2 u u0 u1 u2 : Value} {l l0 l1 l2 n n0 n1 n2 : List Int} {g k : Nat}
theorem RW.below (h : RW w W v l) (hb : Below W.heap.size W W') : RW w W' v l := Kd.R_step h (fun k _ hl => hb.block k hl)
theorem RW.kept (h : RW w W v l) {S : Nat → Prop} (hk : Kept W W' S) (ha : ∀ k, some k = v.ownBlock → ¬ S k) : RW w W' v l := Kd.R_step h (fun k hb hl => hk.2 k hl (ha k hb))
theorem RW.lt (h : RW w W v l) {k : Nat} (hk : some k = v.ownBlock) : k < W.heap.size := Kd.R_lt h k hk.symm
theorem RW.notbox (h : RW w W v l) {g t : Nat} {cs : Array Value} (hb : W.heap[g]? = some (.cells cs t (0, 0))) (ht : 3 ≠ t) : ¬ some g = v.ownBlock := Kd.R_ne h hb ht
theorem RW.drew (h : RW w W v l) : RW w W.drew v l := Kd.R_step h (fun _ _ _ => rfl)
theorem RW.reads (h : RW w W v l) : ∃ A c, v = .slice A l.length c ∧ l.length ≤ c ∧ Kd.C (Kd.int .i64) W A l.length l := Kd.R_reads h
theorem RW.beside (h : RW w W v l) {b : Nat} (hb0 : b = W.heap.size) {w1 : World} (hb : Below W.heap.size W w1) (u0 u1 u2 : Value) : RW w (((w1.setCell ⟨b, 0, none⟩ u0).setCell ⟨b, 1, none⟩ u1).setCell ⟨b, 2, none⟩ u2) v l := by
  have hx : ∀ k, k < W.heap.size → (((w1.setCell ⟨b, 0, none⟩ u0).setCell ⟨b, 1, none⟩ u1).setCell ⟨b, 2, none⟩ u2).heap[k]? = w1.heap[k]? := fun k hk => by
    have hne : k ≠ b := by omega
    exact (Below.heap_setCell _ ⟨b, 2, none⟩ _ k hne).trans ((Below.heap_setCell _ ⟨b, 1, none⟩ _ k hne).trans (Below.heap_setCell _ ⟨b, 0, none⟩ _ k hne))
  exact Kd.R_step h (fun k _ hl => (hx k hl).trans (hb.block k hl))
/-- What a call hands back that makes a row. -/
def GivesR (w W : World) (n : List Int) (e : Ending) (w' : World) : Prop := ∃ u : Value, e = .returned u ∧ RW w w' u n ∧ (∀ k, some k = u.ownBlock → W.heap.size ≤ k) ∧ Below W.heap.size W w'
def GivesM (w W : World) (n0 n1 n2 : List Int) (e : Ending) (w' : World) : Prop := ∃ u0 u1 u2 : Value, e = .returned (.agg #[u0, u1, u2]) ∧ OM w w' u0 u1 u2 n0 n1 n2 ∧ (∀ k, Bl u0 u1 u2 k → W.heap.size ≤ k) ∧ Below W.heap.size W w'
theorem below_drawn (h : Drawn0 W W') : Below W.heap.size W W' := by
  obtain ⟨nd, rfl⟩ := h
  apply pw_below_drewN
  exact Below.refl _ _
theorem calls_to {A0 A1 A2 : Option Addr} {c0 c1 c2 : Nat} (hw : w.heap.size ≤ W.heap.size) (r0 : Kd.C (Kd.int .i64) W A0 l0.length l0) (q0 : l0.length ≤ c0) (r1 : Kd.C (Kd.int .i64) W A1 l1.length l1) (q1 : l1.length ≤ c1) (r2 : Kd.C (Kd.int .i64) W A2 l2.length l2) (q2 : l2.length ≤ c2)
    (h : laws_toMachine.f k l0 l1 l2 = some (l0, l1, l2)) : Calls Try.prog 6 #[.agg #[.slice A0 l0.length c0, .slice A1 l1.length c1, .slice A2 l2.length c2]] W (GivesM w W l0 l1 l2) :=
  (laws_toMachine.calls k A0 c0 l0 A1 c1 l1 A2 c2 l2 l0 l1 l2 W r0 q0 r1 q1 r2 q2 h).mono (fun e w' ⟨u0, u1, u2, he, h0, h1, h2, hb⟩ => ⟨u0, u1, u2, he, (OM.made hw h0 h1 h2).1, (OM.made hw h0 h1 h2).2, hb⟩)
theorem calls_spec (hw : w.heap.size ≤ W.heap.size) (o : OM w W v0 v1 v2 l0 l1 l2) (h : spec_TriangleOf.f k l0 l1 l2 = some n) : Calls Try.prog 5 #[.agg #[v0, v1, v2]] W (GivesR w W n) := by
  obtain ⟨A0, c0, A1, c1, A2, c2, rfl, rfl, rfl, q0, q1, q2, r0, r1, r2⟩ := o.reads
  exact (spec_TriangleOf.calls k A0 c0 l0 A1 c1 l1 A2 c2 l2 n W r0 q0 r1 q1 r2 q2 h).mono (fun e w' ⟨u, he, h0, hb⟩ => ⟨u, he, Kd.R_lower (Kd.R_tight rfl h0) hw, fun k hk => Kd.R_base h0 k hk.symm, hb⟩)
theorem calls_impl (hw : w.heap.size ≤ W.heap.size) (o : OM w W v0 v1 v2 l0 l1 l2) (h : impl_TriangleOf.f k l0 l1 l2 = some n) : Calls Try.prog 7 #[.agg #[v0, v1, v2]] W (GivesR w W n) := by
  obtain ⟨A0, c0, A1, c1, A2, c2, rfl, rfl, rfl, q0, q1, q2, r0, r1, r2⟩ := o.reads
  exact (impl_TriangleOf.calls k A0 c0 l0 A1 c1 l1 A2 c2 l2 n W r0 q0 r1 q1 r2 q2 h).mono (fun e w' ⟨u, he, h0, hb⟩ => ⟨u, he, Kd.R_lower (Kd.R_tight rfl h0) hw, fun k hk => Kd.R_base h0 k hk.symm, hb⟩)
theorem calls_eq (o : OM w W v0 v1 v2 l0 l1 l2) (p : OM w W u0 u1 u2 l0 l1 l2) (h : laws_eqMachine.f k l0 l1 l2 l0 l1 l2 = some true) : Calls Try.prog 9 #[.agg #[v0, v1, v2], .agg #[u0, u1, u2]] W fun e w' => e = .returned (.bool true) ∧ Below W.heap.size W w' := by
  obtain ⟨A0, c0, A1, c1, A2, c2, rfl, rfl, rfl, q0, q1, q2, r0, r1, r2⟩ := o.reads
  obtain ⟨B0, d0, B1, d1, B2, d2, rfl, rfl, rfl, s0, s1, s2, t0, t1, t2⟩ := p.reads
  exact laws_eqMachine.calls k A0 c0 l0 A1 c1 l1 A2 c2 l2 B0 d0 l0 B1 d1 l1 B2 d2 l2 true W r0 q0 r1 q1 r2 q2 t0 s0 t1 s1 t2 s2 h
theorem calls_mark {q : Int} (hB : Below w.heap.size w W) (o : Mx w W g v0 v1 v2 l0 l1 l2) (h : laws_markMachine.f k l0 l1 l2 1 = some (q, n0, n1, n2)) : Calls Try.prog 10 #[.agg #[v0, v1, v2], .int .i64 1] W fun e w' => e = .returned (.int .i64 q) ∧ Below w.heap.size w w' ∧ Kept W w' (Bl v0 v1 v2) :=
  (laws_markMachine.calls k (fun k_ => some k_ = v0.ownBlock) v0 l0 (fun k_ => some k_ = v1.ownBlock) v1 l1 (fun k_ => some k_ = v2.ownBlock) v2 l2 1 q n0 n1 n2 w W hB o.om.r0 o.om.n01 o.om.n02 o.om.r1 (fun k_ h1 h0 => o.om.n01 k_ h0 h1) o.om.n12 o.om.r2 (fun k_ h2 h0 => o.om.n02 k_ h0 h2) (fun k_ h2 h1 => o.om.n12 k_ h1 h2) h).mono
    (fun e w' ⟨he, h0, h1, h2, hb, hk⟩ => ⟨he, hb, hk⟩)
theorem calls_eqI (o : RW w W v l) (p : RW w W u l) (h : laws_eqIntS.f k l l = some true) : Calls Try.prog 8 #[v, u] W fun e w' => e = .returned (.bool true) ∧ Below W.heap.size W w' := by
  obtain ⟨A, c, rfl, q, r⟩ := o.reads
  obtain ⟨B, d, rfl, s, t⟩ := p.reads
  exact (laws_eqIntS.calls k A c l B d l true W r q t s h).mono (fun e w' ⟨he, hd⟩ => ⟨he, below_drawn hd⟩)
theorem calls_heldI {q : Int} (o : RW w W v l) (h : laws_heldIntS.f k l 1 = some q) : Calls Try.prog 12 #[v, .int .i64 1] W fun e w' => e = .returned (.int .i64 q) ∧ Below W.heap.size W w' := by
  obtain ⟨A, c, rfl, s, r⟩ := o.reads
  exact (laws_heldIntS.calls k A c l 1 q W r s h).mono (fun e w' ⟨he, hd⟩ => ⟨he, below_drawn hd⟩)
theorem calls_markI {q : Int} (hB : Below w.heap.size w W) (o : RW w W v l) (h : laws_markIntS.f k l 1 = some (q, n)) : Calls Try.prog 11 #[v, .int .i64 1] W fun e w' => e = .returned (.int .i64 q) ∧ RW w w' v n ∧ Below w.heap.size w w' ∧ Kept W w' (fun k_ => some k_ = v.ownBlock) :=
  (laws_markIntS.calls k (fun k_ => some k_ = v.ownBlock) v l 1 q n w W hB o h).mono (fun e w' ⟨he, h0, hb, hk⟩ => ⟨he, Kd.R_tight rfl h0, hb, hk⟩)
end

set_option maxHeartbeats 8000000 in
set_option maxRecDepth 100000 in
theorem lawTri (A0 : Option Addr) (c0 : Nat) (l0 : List Int) (A1 : Option Addr) (c1 : Nat) (l1 : List Int) (A2 : Option Addr) (c2 : Nat) (l2 : List Int) (w : World)
    (hr0 : Kd.C (Kd.int .i64) w A0 l0.length l0) (hc0 : l0.length ≤ c0) (hr1 : Kd.C (Kd.int .i64) w A1 l1.length l1) (hc1 : l1.length ≤ c1) (hr2 : Kd.C (Kd.int .i64) w A2 l2.length l2) (hc2 : l2.length ≤ c2) :
    Calls Try.prog 3 #[.agg #[.slice A0 l0.length c0, .slice A1 l1.length c1, .slice A2 l2.length c2]] w fun e w' => e = .returned (.bool true) ∧ Below w.heap.size w w' := by
  obtain ⟨t, ht, hs⟩ := Sem.szMachine_eq l0 l1 l2 hr0.2.1 hr1.2.1 hr2.2.1
  have HT := Aside0.mk ht
  have HB1 := Aside0.mk (below_alloc (Below.refl w.heap.size w) (.cells #[.slice A0 l0.length c0, .slice A1 l1.length c1, .slice A2 l2.length c2] 24))
  have BA1 := Aside0.mk (blk_new w (.cells #[.slice A0 l0.length c0, .slice A1 l1.length c1, .slice A2 l2.length c2] 24))
  have HR := Aside0.mk (⟨hr0, hr1, hr2⟩ : Kd.C (Kd.int .i64) w A0 l0.length l0 ∧ Kd.C (Kd.int .i64) w A1 l1.length l1 ∧ Kd.C (Kd.int .i64) w A2 l2.length l2)
  have HC := Aside0.mk (⟨hc0, hc1, hc2⟩ : l0.length ≤ c0 ∧ l1.length ≤ c1 ∧ l2.length ≤ c2)
  clear hr0 hr1 hr2 hc0 hc1 hc2 ht
  have HSZ := Aside0.mk (fun W (hb : Below w.heap.size w W) => laws_szMachine.calls A0 c0 l0 A1 c1 l1 A2 c2 l2 1048576 t W (Kd.C_below HR.out.1 hb) HC.out.1 (Kd.C_below HR.out.2.1 hb) HC.out.2.1 (Kd.C_below HR.out.2.2 hb) HC.out.2.2 HT.out)
  by_cases hn : t < 0
  · have hnb : decide (t < 0) = true := decide_eq_true hn
    go_enter Try.func3, Try.ntmps3
    go_wp2_with (first | (go_at_call 4; refine (HSZ.out _ HB1.out).mono ?_; rintro e w2 ⟨rfl, hb2⟩))
    go_ret
    exact ⟨rfl, below_step HB1.out hb2⟩
  · have hnb : decide (t < 0) = false := decide_eq_false hn
    obtain ⟨ha, hb, hc⟩ := hs.resolve_left hn
    obtain ⟨T, hTe⟩ : ∃ n, n = Sem.triOf l0 l1 l2 := ⟨_, rfl⟩
    have hlen := Sem.triOf_len l0 l1 l2
    rw [← hTe] at hlen
    obtain ⟨kT, hT⟩ := Ev.rounds (Sem.toMachine_eq l0 l1 l2 ha hb hc)
    obtain ⟨kS, hS⟩ := Ev.rounds (Sem.spec_TriangleOf_eq l0 l1 l2 (by omega))
    obtain ⟨kI, hI⟩ := Ev.rounds (Sem.impl_TriangleOf_eq l0 l1 l2)
    rw [← hTe] at hS hI
    obtain ⟨kE, hE⟩ := Ev.rounds (Sem.eqMachine_self l0 l1 l2 ha hb hc)
    obtain ⟨kN, hN⟩ := Ev.rounds (Sem.eqIntS_self T (by omega))
    obtain ⟨kM, hM⟩ := Ev.rounds (Sem.markMachine_eq l0 l1 l2 ha hb hc)
    obtain ⟨kG, hG⟩ := Ev.rounds (Sem.mark_eq T 1 (by omega) (by omega) (by omega))
    obtain ⟨kH, hH⟩ := Ev.rounds (Sem.held_eq 1 T.length (by omega) (by omega) (by omega))
    obtain ⟨M, hMe⟩ : ∃ M : Int, M = 1 + (l0.length : Int) + l1.length + l2.length := ⟨_, rfl⟩
    obtain ⟨Q, hQe⟩ : ∃ Q : Int, Q = 1 + (T.length : Int) := ⟨_, rfl⟩
    have hM0 : decide (M < 0) = false := decide_eq_false (by omega)
    have hQ0 : decide (Q < 0) = false := decide_eq_false (by omega)
    rw [← hMe] at hM
    rw [← hQe] at hG hH
    generalize Sem.nums 1 l0.length = x0, Sem.nums (1 + (l0.length : Int)) l1.length = x1, Sem.nums (1 + (l0.length : Int) + l1.length) l2.length = x2 at hM
    generalize Sem.nums 1 T.length = Y at hG hH
    clear hMe hQe hlen hTe ha hb hc hs hn
    have HSp := Aside0.mk hS
    have HIm := Aside0.mk hI
    have HEq := Aside0.mk hE
    have HEn := Aside0.mk hN
    have HMa := Aside0.mk hM
    have HGa := Aside0.mk hG
    have HHe := Aside0.mk hH
    have HTo := Aside0.mk (fun W (hb : Below w.heap.size w W) => calls_to (w := w) (W := W) (below_size hb) (Kd.C_below HR.out.1 hb) HC.out.1 (Kd.C_below HR.out.2.1 hb) HC.out.2.1 (Kd.C_below HR.out.2.2 hb) HC.out.2.2 hT)
    clear hT hS hI hE hN hM hG hH
    go_enter Try.func3, Try.ntmps3
    have ca0 : (w.alloc (.cells #[.slice A0 l0.length c0, .slice A1 l1.length c1, .slice A2 l2.length c2] 24)).cell? ⟨w.heap.size, 0, none⟩ = some (.slice A0 l0.length c0) := (blk_cell BA1.out 0).trans rfl
    have ca1 : (w.alloc (.cells #[.slice A0 l0.length c0, .slice A1 l1.length c1, .slice A2 l2.length c2] 24)).cell? ⟨w.heap.size, 1, none⟩ = some (.slice A1 l1.length c1) := (blk_cell BA1.out 1).trans rfl
    have ca2 : (w.alloc (.cells #[.slice A0 l0.length c0, .slice A1 l1.length c1, .slice A2 l2.length c2] 24)).cell? ⟨w.heap.size, 2, none⟩ = some (.slice A2 l2.length c2) := (blk_cell BA1.out 2).trans rfl
    go_upto_region 10 with (first | (go_at_call 4; refine (HSZ.out _ HB1.out).mono ?_; rintro e w2 ⟨rfl, hb2⟩; have HB2 := Aside0.mk (below_step HB1.out hb2); have BA2 := Aside0.mk (blk_below BA1.out hb2); have ca0_ : w2.cell? ⟨w.heap.size, 0, none⟩ = some (.slice A0 l0.length c0) := (blk_cell BA2.out 0).trans rfl; have ca1_ : w2.cell? ⟨w.heap.size, 1, none⟩ = some (.slice A1 l1.length c1) := (blk_cell BA2.out 1).trans rfl; have ca2_ : w2.cell? ⟨w.heap.size, 2, none⟩ = some (.slice A2 l2.length c2) := (blk_cell BA2.out 2).trans rfl; clear hb2) | (go_at_call 6; refine (HTo.out _ HB2.out).mono ?_; rintro e w3 ⟨t0, t1, t2, rfl, om_, _, hb_⟩; obtain ⟨Pt0, pt0, Pt1, pt1, Pt2, pt2, rfl, rfl, rfl, _⟩ := om_.reads; have Ot := Aside0.mk om_; have HB3 := Aside0.mk (below_step HB2.out hb_); have BA3 := Aside0.mk (blk_below BA2.out hb_); clear om_ hb_) | (go_at_call 5; refine (calls_spec (w := w) (below_size HB3.out) Ot.out HSp.out).mono ?_; rintro e w4 ⟨v4, rfl, rw_, _, hb_⟩; have R4_4 := Aside0.mk rw_; have HB4 := Aside0.mk (below_step HB3.out hb_); have BA4 := Aside0.mk (blk_below BA3.out hb_); have ca0d : w4.cell? ⟨w.heap.size, 0, none⟩ = some (.slice A0 l0.length c0) := (blk_cell BA4.out 0).trans rfl; have ca1d : w4.cell? ⟨w.heap.size, 1, none⟩ = some (.slice A1 l1.length c1) := (blk_cell BA4.out 1).trans rfl; have ca2d : w4.cell? ⟨w.heap.size, 2, none⟩ = some (.slice A2 l2.length c2) := (blk_cell BA4.out 2).trans rfl; clear rw_ hb_) | (go_at_call 6; refine (HTo.out _ HB4.out).mono ?_; rintro e w5 ⟨b0, b1, b2, rfl, om_, fr_, hb_⟩; obtain ⟨Pb0, pb0, Pb1, pb1, Pb2, pb2, rfl, rfl, rfl, _⟩ := om_.reads; have Ob := Aside0.mk om_; have X4 := Aside0.mk (show ∀ k, some k = v4.ownBlock → ¬ Bl (.slice Pb0 l0.length pb0) (.slice Pb1 l1.length pb1) (.slice Pb2 l2.length pb2) k from fun k h h' => Nat.lt_irrefl _ (Nat.lt_of_lt_of_le (R4_4.out.lt h) (fr_ k h'))); have R4_5 := Aside0.mk (R4_4.out.below hb_); have HB5 := Aside0.mk (below_step HB4.out hb_); have BA5 := Aside0.mk (blk_below BA4.out hb_); clear om_ fr_ hb_) | ((with_reducible refine gate_dst (N := 5) rfl ?_); refine box_event ?hg (N := 5) ?hd (cs := #[.slice none 0 0, .slice none 0 0, .slice none 0 0]) (t := 27) ?hr ?_; (case hd => rfl); (case hg => rfl); (case hr => first | (go_simp; done) | (go_simp; rfl)); intro gb hgb wb hbox hb; have M5_6 := Aside0.mk (Ob.out.boxed hgb hbox hb); have BA6 := Aside0.mk (blk_beside BA5.out hgb hb (.slice Pb0 l0.length pb0) (.slice Pb1 l1.length pb1) (.slice Pb2 l2.length pb2)); have HB6 := Aside0.mk (below_beside HB5.out hgb hb (.slice Pb0 l0.length pb0) (.slice Pb1 l1.length pb1) (.slice Pb2 l2.length pb2)); have R4_6 := Aside0.mk (R4_5.out.beside hgb hb (.slice Pb0 l0.length pb0) (.slice Pb1 l1.length pb1) (.slice Pb2 l2.length pb2)); have hcz_0 : wb.cell? ⟨gb, 0, none⟩ = some (.slice none 0 0) := (blk_cell hbox 0).trans rfl; have hcz_1 : wb.cell? ⟨gb, 1, none⟩ = some (.slice none 0 0) := (blk_cell hbox 1).trans rfl; have hcz_2 : wb.cell? ⟨gb, 2, none⟩ = some (.slice none 0 0) := (blk_cell hbox 2).trans rfl; have hfz_0 := blk_frozen hbox 0; have hfz_1 := blk_frozen hbox 1; have hfz_2 := blk_frozen hbox 2; clear hbox hb hgb) | (go_at_call 7; refine (calls_impl (w := w) (below_size HB6.out) M5_6.out.om HIm.out).mono ?_; rintro e w7 ⟨v6, rfl, rw_, fr_, hb_⟩; have R6_7 := Aside0.mk rw_; have X6 := Aside0.mk (show (∀ k, some k = v6.ownBlock → ¬ Bl (.slice Pb0 l0.length pb0) (.slice Pb1 l1.length pb1) (.slice Pb2 l2.length pb2) k) ∧ (∀ k, some k = v4.ownBlock → ¬ some k = v6.ownBlock) from ⟨fun k h h' => Nat.lt_irrefl _ (Nat.lt_of_lt_of_le (M5_6.out.om.lt h') (fr_ k h)), fun k h h' => Nat.lt_irrefl _ (Nat.lt_of_lt_of_le (R4_6.out.lt h) (fr_ k h'))⟩); have R4_7 := Aside0.mk (R4_6.out.below hb_); have M5_7 := Aside0.mk (M5_6.out.below hb_); have HB7 := Aside0.mk (below_step HB6.out hb_); have BA7 := Aside0.mk (blk_below BA6.out hb_); clear rw_ fr_ hb_) | (go_at_call 8; refine (calls_eqI (w := w) R6_7.out R4_7.out HEn.out).mono ?_; rintro e w8 ⟨rfl, hb_⟩; have R4_8 := Aside0.mk (R4_7.out.below hb_); have R6_8 := Aside0.mk (R6_7.out.below hb_); have M5_8 := Aside0.mk (M5_7.out.below hb_); have HB8 := Aside0.mk (below_step HB7.out hb_); have BA8 := Aside0.mk (blk_below BA7.out hb_); clear hb_))
    (try simp only [Act.put, List.setIfInBounds_toArray, List.set_cons_zero, List.set_cons_succ])
    replace R4_8 := Aside0.mk R4_8.out.drew
    replace R6_8 := Aside0.mk R6_8.out.drew
    replace M5_8 := Aside0.mk M5_8.out.drew
    replace HB8 := Aside0.mk (below_drew1 HB8.out)
    replace BA8 := Aside0.mk (blk_drew BA8.out)
    refine start_ (n := 5) (S := fun w' => w'.cell? ⟨gb, 0, none⟩ = some (.slice Pb0 l0.length pb0) ∧ w'.cell? ⟨gb, 1, none⟩ = some (.slice Pb1 l1.length pb1) ∧ w'.cell? ⟨gb, 2, none⟩ = some (.slice Pb2 l2.length pb2) ∧ w'.cell? ⟨w.heap.size, 0, none⟩ = some (.slice A0 l0.length c0) ∧ w'.cell? ⟨w.heap.size, 1, none⟩ = some (.slice A1 l1.length c1) ∧ w'.cell? ⟨w.heap.size, 2, none⟩ = some (.slice A2 l2.length c2)) (ds := []) #[false, false, false, false, false] (by kernel_rfl) rfl rfl ⟨(blk_cell M5_8.out.bx 0).trans rfl, (blk_cell M5_8.out.bx 1).trans rfl, (blk_cell M5_8.out.bx 2).trans rfl, (blk_cell BA8.out 0).trans rfl, (blk_cell BA8.out 1).trans rfl, (blk_cell BA8.out 2).trans rfl⟩ (fun hHeld => ?_)
    generalize w8.drew = wG at R4_8 R6_8 M5_8 HB8 BA8 hHeld ⊢
    refine take_ (i := 0) (N := some 27) (v := ?_) (a' := ?_) #[true, false, false, false, false] rfl rfl (by kernel_rfl) (fun _ _ _ h => h) (Or.inl ⟨by rfl, ?_⟩) hHeld ?_ ?_; rotate_left
    · rintro w' ⟨s0, s1, s2, s3, s4, s5⟩
      go_simp
      with_reducible rfl
    rotate_left
    · simp only [Act.put, List.setIfInBounds_toArray, List.set_cons_zero, List.set_cons_succ, i64_w, i32_w]
      rfl
    refine take_ (i := 1) (N := some 28) (v := ?_) (a' := ?_) #[true, true, false, false, false] rfl rfl (by kernel_rfl) (fun _ _ _ h => h) (Or.inl ⟨by rfl, ?_⟩) hHeld ?_ ?_; rotate_left
    · rintro w' ⟨s0, s1, s2, s3, s4, s5⟩
      go_simp
      with_reducible rfl
    rotate_left
    · simp only [Act.put, List.setIfInBounds_toArray, List.set_cons_zero, List.set_cons_succ, i64_w, i32_w]
      rfl
    refine one_ (i := 2) (N := some 29) #[true, true, true, false, false] rfl rfl (by kernel_rfl) (by decide) (fun K hK => ?_)
    refine goes_ Try.func6 (by kernel_rfl) rfl #[.agg #[.slice A0 l0.length c0, .slice A1 l1.length c1, .slice A2 l2.length c2]] (by rfl) rfl rfl (by (try simp only [List.map_toArray, List.map_cons, List.map_nil]); first | done | rfl | (simp only [List.length_drop, List.length_take]; rfl)) ?_
    refine (HTo.out _ HB8.out).mono ?_
    rintro e w9 ⟨t10, t11, t12, rfl, om_, _, hb_⟩
    obtain ⟨Pe0, pe0, Pe1, pe1, Pe2, pe2, rfl, rfl, rfl, _⟩ := om_.reads
    refine ⟨_, rfl, ?_⟩
    skip
    have Oe := Aside0.mk om_
    have R4_9 := Aside0.mk (R4_8.out.below hb_)
    have R6_9 := Aside0.mk (R6_8.out.below hb_)
    have M5_9 := Aside0.mk (M5_8.out.below hb_)
    have HB9 := Aside0.mk (below_step HB8.out hb_)
    have BA9 := Aside0.mk (blk_below BA8.out hb_)
    clear om_ hb_
    refine hK.out _ _ ⟨(blk_cell M5_9.out.bx 0).trans rfl, (blk_cell M5_9.out.bx 1).trans rfl, (blk_cell M5_9.out.bx 2).trans rfl, (blk_cell BA9.out 0).trans rfl, (blk_cell BA9.out 1).trans rfl, (blk_cell BA9.out 2).trans rfl⟩ (fun hHeld => ?_); clear hK K
    refine norm_ (a' := ?_) ?_ ?_; rotate_left
    · show Act.put _ (some 29) _ = _
      simp only [Act.put, List.setIfInBounds_toArray, List.set_cons_zero, List.set_cons_succ, i64_w, i32_w]
      rfl
    refine one_ (i := 3) (N := some 30) #[true, true, true, true, false] rfl rfl (by kernel_rfl) (by decide) (fun K hK => ?_)
    refine goes_ Try.func9 (by kernel_rfl) rfl #[.agg #[.slice Pb0 l0.length pb0, .slice Pb1 l1.length pb1, .slice Pb2 l2.length pb2], .agg #[.slice Pe0 l0.length pe0, .slice Pe1 l1.length pe1, .slice Pe2 l2.length pe2]] (by rfl) rfl rfl (by (try simp only [List.map_toArray, List.map_cons, List.map_nil]); first | done | rfl | (simp only [List.length_drop, List.length_take]; rfl)) ?_
    refine (calls_eq (w := w) M5_9.out.om Oe.out HEq.out).mono ?_
    rintro e w10 ⟨rfl, hb_⟩
    refine ⟨_, rfl, ?_⟩
    skip
    have R4_10 := Aside0.mk (R4_9.out.below hb_)
    have R6_10 := Aside0.mk (R6_9.out.below hb_)
    have M5_10 := Aside0.mk (M5_9.out.below hb_)
    have HB10 := Aside0.mk (below_step HB9.out hb_)
    have BA10 := Aside0.mk (blk_below BA9.out hb_)
    clear hb_ Oe
    refine hK.out _ _ ⟨(blk_cell M5_10.out.bx 0).trans rfl, (blk_cell M5_10.out.bx 1).trans rfl, (blk_cell M5_10.out.bx 2).trans rfl, (blk_cell BA10.out 0).trans rfl, (blk_cell BA10.out 1).trans rfl, (blk_cell BA10.out 2).trans rfl⟩ (fun hHeld => ?_); clear hK K
    refine norm_ (a' := ?_) ?_ ?_; rotate_left
    · show Act.put _ (some 30) _ = _
      simp only [Act.put, List.setIfInBounds_toArray, List.set_cons_zero, List.set_cons_succ, i64_w, i32_w]
      rfl
    refine pure_ (i := 4) (N := some 31) (v := ?_) (a' := ?_) #[true, true, true, true, true] rfl rfl (by kernel_rfl) (fun _ _ _ h => h) (Or.inl ⟨by rfl, ?_⟩) ?_ ?_; rotate_left
    · intro w'
      go_simp
      with_reducible rfl
    rotate_left
    · simp only [Act.put, List.setIfInBounds_toArray, List.set_cons_zero, List.set_cons_succ, i64_w, i32_w]
      rfl
    refine done_ (by kernel_rfl) ?_
    have ca0_ : w10.cell? ⟨w.heap.size, 0, none⟩ = some (.slice A0 l0.length c0) := (blk_cell BA10.out 0).trans rfl
    have ca1_ : w10.cell? ⟨w.heap.size, 1, none⟩ = some (.slice A1 l1.length c1) := (blk_cell BA10.out 1).trans rfl
    have ca2_ : w10.cell? ⟨w.heap.size, 2, none⟩ = some (.slice A2 l2.length c2) := (blk_cell BA10.out 2).trans rfl
    have cb0_ : w10.cell? ⟨gb, 0, none⟩ = some (.slice Pb0 l0.length pb0) := (blk_cell M5_10.out.bx 0).trans rfl
    have cb1_ : w10.cell? ⟨gb, 1, none⟩ = some (.slice Pb1 l1.length pb1) := (blk_cell M5_10.out.bx 1).trans rfl
    have cb2_ : w10.cell? ⟨gb, 2, none⟩ = some (.slice Pb2 l2.length pb2) := (blk_cell M5_10.out.bx 2).trans rfl
    clear R4_8 R6_8 M5_8 HB8 BA8 R4_9 R6_9 M5_9 HB9 BA9
    go_upto_region 14 with (first | (go_at_call 10; refine (calls_mark (w := w) HB10.out M5_10.out HMa.out).mono ?_; rintro e w11 ⟨rfl, hb_, hk_⟩; have HB11 := Aside0.mk hb_; have R4_11 := Aside0.mk (R4_10.out.kept hk_ X4.out); have R6_11 := Aside0.mk (R6_10.out.kept hk_ X6.out.1); have BA11 := Aside0.mk ((hk_.2 _ (blk_lt BA10.out) (M5_10.out.om.notbox BA10.out (by decide))).trans BA10.out); clear hb_ hk_))
    (try simp only [Act.put, List.setIfInBounds_toArray, List.set_cons_zero, List.set_cons_succ])
    go_upto_region 17 with (first | (go_at_call 8; refine (calls_eqI (w := w) R6_11.out R4_11.out HEn.out).mono ?_; rintro e w12 ⟨rfl, hb_⟩; have R4_12 := Aside0.mk (R4_11.out.below hb_); have R6_12 := Aside0.mk (R6_11.out.below hb_); have HB12 := Aside0.mk (below_step HB11.out hb_); have BA12 := Aside0.mk (blk_below BA11.out hb_); clear hb_))
    (try simp only [Act.put, List.setIfInBounds_toArray, List.set_cons_zero, List.set_cons_succ])
    go_upto_region 24 with (first | (go_at_call 11; refine (calls_markI (w := w) HB12.out R6_12.out HGa.out).mono ?_; rintro e w13 ⟨rfl, rw_, hb_, hk_⟩; have HB13 := Aside0.mk hb_; have R6_13 := Aside0.mk rw_; have R4_13 := Aside0.mk (R4_12.out.kept hk_ X6.out.2); have BA13 := Aside0.mk ((hk_.2 _ (blk_lt BA12.out) (R6_12.out.notbox BA12.out (by decide))).trans BA12.out); clear rw_ hb_ hk_) | (go_at_call 12; refine (calls_heldI (w := w) R6_13.out HHe.out).mono ?_; rintro e w14 ⟨rfl, hb_⟩; have R4_14 := Aside0.mk (R4_13.out.below hb_); have R6_14 := Aside0.mk (R6_13.out.below hb_); have HB14 := Aside0.mk (below_step HB13.out hb_); have BA14 := Aside0.mk (blk_below BA13.out hb_); have ca0e : w14.cell? ⟨w.heap.size, 0, none⟩ = some (.slice A0 l0.length c0) := (blk_cell BA14.out 0).trans rfl; have ca1e : w14.cell? ⟨w.heap.size, 1, none⟩ = some (.slice A1 l1.length c1) := (blk_cell BA14.out 1).trans rfl; have ca2e : w14.cell? ⟨w.heap.size, 2, none⟩ = some (.slice A2 l2.length c2) := (blk_cell BA14.out 2).trans rfl; clear hb_))
    (try simp only [Act.put, List.setIfInBounds_toArray, List.set_cons_zero, List.set_cons_succ])
    go_wp2_with (first | (go_at_call 6; refine (HTo.out _ HB14.out).mono ?_; rintro e w15 ⟨t20, t21, t22, rfl, om_, _, hb_⟩; obtain ⟨Pf0, pf0, Pf1, pf1, Pf2, pf2, rfl, rfl, rfl, _⟩ := om_.reads; have Of := Aside0.mk om_; have R4_15 := Aside0.mk (R4_14.out.below hb_); have R6_15 := Aside0.mk (R6_14.out.below hb_); have HB15 := Aside0.mk (below_step HB14.out hb_); have BA15 := Aside0.mk (blk_below BA14.out hb_); clear om_ hb_) | (go_at_call 7; refine (calls_impl (w := w) (below_size HB15.out) Of.out HIm.out).mono ?_; rintro e w16 ⟨v10, rfl, rw_, _, hb_⟩; have R10 := Aside0.mk rw_; have R4_16 := Aside0.mk (R4_15.out.below hb_); have R6_16 := Aside0.mk (R6_15.out.below hb_); have HB16 := Aside0.mk (below_step HB15.out hb_); have BA16 := Aside0.mk (blk_below BA15.out hb_); clear rw_ hb_) | (go_at_call 8; refine (calls_eqI (w := w) R10.out R4_16.out HEn.out).mono ?_; rintro e w17 ⟨rfl, hb_⟩; have R6_17 := Aside0.mk (R6_16.out.below hb_); have HB17 := Aside0.mk (below_step HB16.out hb_); have BA17 := Aside0.mk (blk_below BA16.out hb_); clear hb_) | (go_at_call 12; refine (calls_heldI (w := w) R6_17.out HHe.out).mono ?_; rintro e w18 ⟨rfl, hb_⟩; have HB18 := Aside0.mk (below_step HB17.out hb_); clear hb_))
    go_ret
    exact ⟨rfl, HB18.out⟩
end Go.Proofs.Ytlgdhmjoemdmlaa.Man
