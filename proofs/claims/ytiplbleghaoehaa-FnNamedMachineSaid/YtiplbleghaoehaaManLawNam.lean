/- The law FnNamedMachine, its call: it returns true; no condition but the bytes' range and the facts on numbers that it is handed. -/
import Derived.Test.YtiplbleghaoehaaManRW
import Derived.Test.YtiplbleghaoehaaManNTri
import Derived.Test.YtiplbleghaoehaaSemA
import Derived.Test.YtiplbleghaoehaaPAx4
import Derived.Test.YtiplbleghaoehaaPAx6
import Derived.Test.YtiplbleghaoehaaPAx9
import Derived.Test.YtiplbleghaoehaaPAx10
import Derived.Test.YtiplbleghaoehaaPAx16
import Derived.Test.YtiplbleghaoehaaPAx18
import Derived.Test.YtiplbleghaoehaaPAx11
namespace Go.Proofs.Ytiplbleghaoehaa.Man
open Go.RowKit Go.Proofs.Ytiplbleghaoehaa.PA Go.Proofs.YtiplbleghaoehaaW.PrintWords Go.Proofs.YtiplbleghaoehaaW.PrintLast Go.Proofs.YtiplbleghaoehaaW.PrintMore
set_option linter.unusedVariables false
set_option linter.unusedSimpArgs false

section
variable {w W W' : World} {v v0 v1 v2 u u0 u1 u2 : Value} {l l0 l1 l2 n n0 n1 n2 : List Int} {k : Nat}
theorem calls_impl (hw : w.heap.size ≤ W.heap.size) (o : OM w W v0 v1 v2 l0 l1 l2) (h : impl_TriangleOf.f k l0 l1 l2 = some n) : Calls Try.prog 13 #[.agg #[v0, v1, v2]] W (GivesR w W n) := by
  obtain ⟨A0, c0, A1, c1, A2, c2, rfl, rfl, rfl, q0, q1, q2, r0, r1, r2⟩ := o.reads
  exact (impl_TriangleOf.calls k A0 c0 l0 A1 c1 l1 A2 c2 l2 n W r0 q0 r1 q1 r2 q2 h).mono (fun e w' ⟨u, he, h0, hb⟩ => ⟨u, he, Kd.R_lower (Kd.R_tight rfl h0) hw, fun k hk => Kd.R_base h0 k hk.symm, hb⟩)
theorem calls_any {q : Bool} (o : OM w W v0 v1 v2 l0 l1 l2) (h : impl_AnyOrder.f k l0 l1 l2 = some q) : Calls Try.prog 11 #[.agg #[v0, v1, v2]] W fun e w' => e = .returned (.bool q) ∧ Below W.heap.size W w' := by
  obtain ⟨A0, c0, A1, c1, A2, c2, rfl, rfl, rfl, q0, q1, q2, r0, r1, r2⟩ := o.reads
  exact impl_AnyOrder.calls k A0 c0 l0 A1 c1 l1 A2 c2 l2 q W r0 q0 r1 q1 r2 q2 h
theorem calls_named {s : ByteArray} {b : Bool} (hw : w.heap.size ≤ W.heap.size) (h : impl_NamedMachine.f k s = some (n0, n1, n2, b)) : Calls Try.prog 6 #[.string s] W fun e w' => ∃ u0 u1 u2 : Value, e = .returned (.tuple #[.agg #[u0, u1, u2], .bool b]) ∧ OM w w' u0 u1 u2 n0 n1 n2 ∧ Below W.heap.size W w' :=
  (impl_NamedMachine.calls k s n0 n1 n2 b W h).mono (fun e w' ⟨u0, u1, u2, he, h0, h1, h2, hb⟩ => ⟨u0, u1, u2, he, (OM.made hw h0 h1 h2).1, hb⟩)
theorem calls_namedS {s : ByteArray} {b : Bool} (hw : w.heap.size ≤ W.heap.size) (h : spec_NamedMachine.f k s = some (n0, n1, n2, b)) : Calls Try.prog 7 #[.string s] W fun e w' => ∃ u0 u1 u2 : Value, e = .returned (.tuple #[.agg #[u0, u1, u2], .bool b]) ∧ OM w w' u0 u1 u2 n0 n1 n2 ∧ Below W.heap.size W w' :=
  (spec_NamedMachine.calls k s n0 n1 n2 b W h).mono (fun e w' ⟨u0, u1, u2, he, h0, h1, h2, hb⟩ => ⟨u0, u1, u2, he, (OM.made hw h0 h1 h2).1, hb⟩)
theorem calls_sameM (o : OM w W v0 v1 v2 l0 l1 l2) (p : OM w W u0 u1 u2 l0 l1 l2) (h : laws_sameMachine.f k l0 l1 l2 l0 l1 l2 = some true) : Calls Try.prog 8 #[.agg #[v0, v1, v2], .agg #[u0, u1, u2]] W fun e w' => e = .returned (.bool true) ∧ Below W.heap.size W w' := by
  obtain ⟨A0, c0, A1, c1, A2, c2, rfl, rfl, rfl, q0, q1, q2, r0, r1, r2⟩ := o.reads
  obtain ⟨B0, d0, B1, d1, B2, d2, rfl, rfl, rfl, s0, s1, s2, t0, t1, t2⟩ := p.reads
  exact laws_sameMachine.calls k A0 c0 l0 A1 c1 l1 A2 c2 l2 B0 d0 l0 B1 d1 l1 B2 d2 l2 true W r0 q0 r1 q1 r2 q2 t0 s0 t1 s1 t2 s2 h
theorem calls_same (o : RW w W v l) (p : RW w W u l) (h : laws_sameInts.f k l l = some true) : Calls Try.prog 12 #[v, u] W fun e w' => e = .returned (.bool true) ∧ Below W.heap.size W w' := by
  obtain ⟨A, c, rfl, q, r⟩ := o.reads
  obtain ⟨B, d, rfl, s, t⟩ := p.reads
  exact (laws_sameInts.calls k A c l B d l true W r q t s h).mono (fun e w' ⟨he, hd⟩ => ⟨he, Drawn0.below hd⟩)
end
/-- What NamedTriangle answers. -/
def NTri (s : ByteArray) (p : Nat → Nat → Bool) : Prop := ∀ w : World, Calls Try.prog 25 #[.string s] w fun e w' => ∃ v, e = .returned (.tuple #[v, .bool true]) ∧ Kd.R (Kd.int .i64) 3 w' w.heap.size (fun _ => True) v (triRow p) ∧ Below w.heap.size w w'
set_option maxHeartbeats 2000000 in
set_option maxRecDepth 100000 in
theorem calls_ntri {w W : World} {s : ByteArray} {p : Nat → Nat → Bool} (hw : w.heap.size ≤ W.heap.size) (h : NTri s p) : Calls Try.prog 10 #[.string s] W fun e w' => ∃ v, e = .returned (.tuple #[v, .bool true]) ∧ RW w w' v (triRow p) ∧ Below W.heap.size W w' := by
  have HN := Aside0.mk h
  have HW := Aside0.mk hw
  clear h hw
  go_enter Try.func10, Try.ntmps10
  go_wp2_with (first | (go_at_call 25; refine (HN.out _).mono ?_; rintro e w3 ⟨v, rfl, hv_, hb_⟩; have HV := Aside0.mk hv_; have HB3 := Aside0.mk hb_; clear hv_ hb_))
  go_ret2
  exact ⟨_, rfl, Kd.R_lower (Kd.R_tight rfl HV.out) HW.out, HB3.out⟩
/-- What the law's calls answer. -/
structure NamFacts (l : List Int) (kd k1 k2 k3 : Nat) (s : ByteArray) (b : Bool) (r0 r1 r2 : List Int) : Prop where
  d : spec_DrawNamedMachine.f kd l = some s
  i : impl_NamedMachine.f k1 s = some (r0, r1, r2, b)
  s : spec_NamedMachine.f k2 s = some (r0, r1, r2, b)
  e : laws_sameMachine.f k3 r0 r1 r2 r0 r1 r2 = some true
structure NamFacts2 (k4 k5 k6 : Nat) (s : ByteArray) (r0 r1 r2 : List Int) (p : Nat → Nat → Bool) : Prop where
  n : NTri s p
  a : impl_AnyOrder.f k4 r0 r1 r2 = some true
  i : impl_TriangleOf.f k5 r0 r1 r2 = some (triRow p)
  e : laws_sameInts.f k6 (triRow p) (triRow p) = some true

set_option maxHeartbeats 4000000 in
set_option maxRecDepth 100000 in
theorem lawNam (A : Option Addr) (c : Nat) (l : List Int) (w : World) (hr : Kd.C (Kd.int .u8) w A l.length l) (hc : l.length ≤ c) (F : (l.length : Int) > 1048576 ∨ ∃ kd k1 k2 k3 s b r0 r1 r2, NamFacts l kd k1 k2 k3 s b r0 r1 r2 ∧ ((b = false ∧ r0 = []) ∨ (b = true ∧ ∃ k4 k5 k6 p, NamFacts2 k4 k5 k6 s r0 r1 r2 p))) :
    Calls Try.prog 3 #[.slice A l.length c] w fun e w' => e = .returned (.bool true) ∧ Below w.heap.size w w' := by
  have hu24 := Try.underlying26
  have HR := Aside0.mk hr
  have HC := Aside0.mk hc; clear hr hc
  by_cases c2 : (l.length : Int) > 1048576
  · have c2b0 : decide (1048576 < (l.length : Int)) = true := decide_eq_true c2
    have c2b1 : decide (1048576 < l.length) = true := decide_eq_true (by omega); clear c2 F
    go_enter Try.func3, Try.ntmps3
    go_wp2
    go_ret
    exact ⟨rfl, Below.refl _ _⟩
  · obtain ⟨kd, k1, k2, k3, s, b, r0, r1, r2, F, G⟩ := F.resolve_left c2
    have c2b0 : decide (1048576 < (l.length : Int)) = false := decide_eq_false c2
    have c2b1 : decide (1048576 < l.length) = false := decide_eq_false (by omega); clear c2
    have HD := Aside0.mk F.d
    have HI := Aside0.mk F.i
    have HS := Aside0.mk F.s
    have HE := Aside0.mk F.e
    clear F
    rcases G with ⟨rfl, hT⟩ | ⟨rfl, k4, k5, k6, p, G⟩
    · have t0 : ((r0.length : Int) == 0) = true := beq_iff_eq.2 (by rw [hT]; rfl)
      have t1 : (r0.length == 0) = true := beq_iff_eq.2 (by rw [hT]; rfl)
      clear hT
      go_enter Try.func3, Try.ntmps3
      go_upto_region 6 with (first | (go_at_call 5; refine (spec_DrawNamedMachine.calls kd A c l s _ HR.out HC.out HD.out).mono ?_; rintro e w3 ⟨rfl, hb_⟩; have HB0 := Aside0.mk hb_; clear hb_) | (go_at_call 6; (with_reducible refine (calls_named (w := w) (below_size HB0.out) HI.out).mono ?_); rintro e w4 ⟨a0, a1, a2, rfl, om_, hb_⟩; obtain ⟨Pa0, pa0, Pa1, pa1, Pa2, pa2, rfl, rfl, rfl, _⟩ := om_.reads; have Oa := Aside0.mk om_; have HBa := Aside0.mk (below_step HB0.out hb_); clear om_ hb_) | ((with_reducible refine gate_dst (N := 4) rfl ?_); refine box_event ?hg (N := 4) ?hd (cs := #[.slice none 0 0, .slice none 0 0, .slice none 0 0]) (t := 26) ?hr ?_; (case hd => rfl); (case hg => rfl); (case hr => first | (go_simp; done) | (go_simp; rfl)); intro g4 hg4 wg4 hbox hb; have M4_0 := Aside0.mk (Oa.out.boxed hg4 hbox hb); have HB1 := Aside0.mk (below_beside HBa.out hg4 hb (.slice Pa0 r0.length pa0) (.slice Pa1 r1.length pa1) (.slice Pa2 r2.length pa2)); have hcg4_0 : wg4.cell? ⟨g4, 0, none⟩ = some (.slice none 0 0) := (blk_cell hbox 0).trans rfl; have hfg4_0 := blk_frozen hbox 0; have hcg4_1 : wg4.cell? ⟨g4, 1, none⟩ = some (.slice none 0 0) := (blk_cell hbox 1).trans rfl; have hfg4_1 := blk_frozen hbox 1; have hcg4_2 : wg4.cell? ⟨g4, 2, none⟩ = some (.slice none 0 0) := (blk_cell hbox 2).trans rfl; have hfg4_2 := blk_frozen hbox 2; clear hbox hb hg4) | (go_at_call 7; (with_reducible refine (calls_namedS (w := w) (below_size HB1.out) HS.out).mono ?_); rintro e w5 ⟨b0, b1, b2, rfl, om_, hb_⟩; obtain ⟨Pb0, pb0, Pb1, pb1, Pb2, pb2, rfl, rfl, rfl, _⟩ := om_.reads; have Ob := Aside0.mk om_; have M4_1 := Aside0.mk (M4_0.out.below hb_); have HBb := Aside0.mk (below_step HB1.out hb_); clear om_ hb_) | ((with_reducible refine gate_dst (N := 6) rfl ?_); refine box_event ?hg (N := 6) ?hd (cs := #[.slice none 0 0, .slice none 0 0, .slice none 0 0]) (t := 26) ?hr ?_; (case hd => rfl); (case hg => rfl); (case hr => first | (go_simp; done) | (go_simp; rfl)); intro g6 hg6 wg6 hbox hb; have M6_0 := Aside0.mk (Ob.out.boxed hg6 hbox hb); have M4_2 := Aside0.mk (M4_1.out.beside hg6 hb (.slice Pb0 r0.length pb0) (.slice Pb1 r1.length pb1) (.slice Pb2 r2.length pb2)); have HB2 := Aside0.mk (below_beside HBb.out hg6 hb (.slice Pb0 r0.length pb0) (.slice Pb1 r1.length pb1) (.slice Pb2 r2.length pb2)); have hcg6_0 : wg6.cell? ⟨g6, 0, none⟩ = some (.slice none 0 0) := (blk_cell hbox 0).trans rfl; have hfg6_0 := blk_frozen hbox 0; have hcg6_1 : wg6.cell? ⟨g6, 1, none⟩ = some (.slice none 0 0) := (blk_cell hbox 1).trans rfl; have hfg6_1 := blk_frozen hbox 1; have hcg6_2 : wg6.cell? ⟨g6, 2, none⟩ = some (.slice none 0 0) := (blk_cell hbox 2).trans rfl; have hfg6_2 := blk_frozen hbox 2; clear hbox hb hg6))
      (try simp only [Act.put, List.setIfInBounds_toArray, List.set_cons_zero, List.set_cons_succ])
      generalize (((wg6.setCell ⟨g6, 0, none⟩ (.slice Pb0 r0.length pb0)).setCell ⟨g6, 1, none⟩ (.slice Pb1 r1.length pb1)).setCell ⟨g6, 2, none⟩ (.slice Pb2 r2.length pb2)) = wz at M4_2 M6_0 HB2 ⊢
      have cg42_0 : wz.cell? ⟨g4, 0, none⟩ = some (.slice Pa0 r0.length pa0) := (blk_cell M4_2.out.bx 0).trans rfl
      have cg42_1 : wz.cell? ⟨g4, 1, none⟩ = some (.slice Pa1 r1.length pa1) := (blk_cell M4_2.out.bx 1).trans rfl
      have cg42_2 : wz.cell? ⟨g4, 2, none⟩ = some (.slice Pa2 r2.length pa2) := (blk_cell M4_2.out.bx 2).trans rfl
      have cg60_0 : wz.cell? ⟨g6, 0, none⟩ = some (.slice Pb0 r0.length pb0) := (blk_cell M6_0.out.bx 0).trans rfl
      have cg60_1 : wz.cell? ⟨g6, 1, none⟩ = some (.slice Pb1 r1.length pb1) := (blk_cell M6_0.out.bx 1).trans rfl
      have cg60_2 : wz.cell? ⟨g6, 2, none⟩ = some (.slice Pb2 r2.length pb2) := (blk_cell M6_0.out.bx 2).trans rfl
      go_wp2_with (first | (go_at_call 8; (with_reducible refine (calls_sameM M4_2.out.om M6_0.out.om HE.out).mono ?_); rintro e w7 ⟨rfl, hb_⟩; have M4_3 := Aside0.mk (M4_2.out.below hb_); have HB3 := Aside0.mk (below_step HB2.out hb_); have cg43_0 : w7.cell? ⟨g4, 0, none⟩ = some (.slice Pa0 r0.length pa0) := (blk_cell M4_3.out.bx 0).trans rfl; have cg43_1 : w7.cell? ⟨g4, 1, none⟩ = some (.slice Pa1 r1.length pa1) := (blk_cell M4_3.out.bx 1).trans rfl; have cg43_2 : w7.cell? ⟨g4, 2, none⟩ = some (.slice Pa2 r2.length pa2) := (blk_cell M4_3.out.bx 2).trans rfl; clear hb_) | (go_at_call 9; (with_reducible refine (laws_alive.calls true _ Sem.alive_ok).mono ?_); rintro e w9 ⟨rfl, hd_⟩; have HB4 := Aside0.mk (below_step HB3.out (Drawn0.below hd_)); clear hd_))
      go_ret
      exact ⟨rfl, HB4.out⟩
    · have HN := Aside0.mk G.n
      have HA := Aside0.mk G.a
      have HI2 := Aside0.mk G.i
      have HE2 := Aside0.mk G.e
      clear G
      go_enter Try.func3, Try.ntmps3
      go_upto_region 6 with (first | (go_at_call 5; refine (spec_DrawNamedMachine.calls kd A c l s _ HR.out HC.out HD.out).mono ?_; rintro e w3 ⟨rfl, hb_⟩; have HB0 := Aside0.mk hb_; clear hb_) | (go_at_call 6; (with_reducible refine (calls_named (w := w) (below_size HB0.out) HI.out).mono ?_); rintro e w4 ⟨a0, a1, a2, rfl, om_, hb_⟩; obtain ⟨Pa0, pa0, Pa1, pa1, Pa2, pa2, rfl, rfl, rfl, _⟩ := om_.reads; have Oa := Aside0.mk om_; have HBa := Aside0.mk (below_step HB0.out hb_); clear om_ hb_) | ((with_reducible refine gate_dst (N := 4) rfl ?_); refine box_event ?hg (N := 4) ?hd (cs := #[.slice none 0 0, .slice none 0 0, .slice none 0 0]) (t := 26) ?hr ?_; (case hd => rfl); (case hg => rfl); (case hr => first | (go_simp; done) | (go_simp; rfl)); intro g4 hg4 wg4 hbox hb; have M4_0 := Aside0.mk (Oa.out.boxed hg4 hbox hb); have HB1 := Aside0.mk (below_beside HBa.out hg4 hb (.slice Pa0 r0.length pa0) (.slice Pa1 r1.length pa1) (.slice Pa2 r2.length pa2)); have hcg4_0 : wg4.cell? ⟨g4, 0, none⟩ = some (.slice none 0 0) := (blk_cell hbox 0).trans rfl; have hfg4_0 := blk_frozen hbox 0; have hcg4_1 : wg4.cell? ⟨g4, 1, none⟩ = some (.slice none 0 0) := (blk_cell hbox 1).trans rfl; have hfg4_1 := blk_frozen hbox 1; have hcg4_2 : wg4.cell? ⟨g4, 2, none⟩ = some (.slice none 0 0) := (blk_cell hbox 2).trans rfl; have hfg4_2 := blk_frozen hbox 2; clear hbox hb hg4) | (go_at_call 7; (with_reducible refine (calls_namedS (w := w) (below_size HB1.out) HS.out).mono ?_); rintro e w5 ⟨b0, b1, b2, rfl, om_, hb_⟩; obtain ⟨Pb0, pb0, Pb1, pb1, Pb2, pb2, rfl, rfl, rfl, _⟩ := om_.reads; have Ob := Aside0.mk om_; have M4_1 := Aside0.mk (M4_0.out.below hb_); have HBb := Aside0.mk (below_step HB1.out hb_); clear om_ hb_) | ((with_reducible refine gate_dst (N := 6) rfl ?_); refine box_event ?hg (N := 6) ?hd (cs := #[.slice none 0 0, .slice none 0 0, .slice none 0 0]) (t := 26) ?hr ?_; (case hd => rfl); (case hg => rfl); (case hr => first | (go_simp; done) | (go_simp; rfl)); intro g6 hg6 wg6 hbox hb; have M6_0 := Aside0.mk (Ob.out.boxed hg6 hbox hb); have M4_2 := Aside0.mk (M4_1.out.beside hg6 hb (.slice Pb0 r0.length pb0) (.slice Pb1 r1.length pb1) (.slice Pb2 r2.length pb2)); have HB2 := Aside0.mk (below_beside HBb.out hg6 hb (.slice Pb0 r0.length pb0) (.slice Pb1 r1.length pb1) (.slice Pb2 r2.length pb2)); have hcg6_0 : wg6.cell? ⟨g6, 0, none⟩ = some (.slice none 0 0) := (blk_cell hbox 0).trans rfl; have hfg6_0 := blk_frozen hbox 0; have hcg6_1 : wg6.cell? ⟨g6, 1, none⟩ = some (.slice none 0 0) := (blk_cell hbox 1).trans rfl; have hfg6_1 := blk_frozen hbox 1; have hcg6_2 : wg6.cell? ⟨g6, 2, none⟩ = some (.slice none 0 0) := (blk_cell hbox 2).trans rfl; have hfg6_2 := blk_frozen hbox 2; clear hbox hb hg6))
      (try simp only [Act.put, List.setIfInBounds_toArray, List.set_cons_zero, List.set_cons_succ])
      generalize (((wg6.setCell ⟨g6, 0, none⟩ (.slice Pb0 r0.length pb0)).setCell ⟨g6, 1, none⟩ (.slice Pb1 r1.length pb1)).setCell ⟨g6, 2, none⟩ (.slice Pb2 r2.length pb2)) = wz at M4_2 M6_0 HB2 ⊢
      have cg42_0 : wz.cell? ⟨g4, 0, none⟩ = some (.slice Pa0 r0.length pa0) := (blk_cell M4_2.out.bx 0).trans rfl
      have cg42_1 : wz.cell? ⟨g4, 1, none⟩ = some (.slice Pa1 r1.length pa1) := (blk_cell M4_2.out.bx 1).trans rfl
      have cg42_2 : wz.cell? ⟨g4, 2, none⟩ = some (.slice Pa2 r2.length pa2) := (blk_cell M4_2.out.bx 2).trans rfl
      have cg60_0 : wz.cell? ⟨g6, 0, none⟩ = some (.slice Pb0 r0.length pb0) := (blk_cell M6_0.out.bx 0).trans rfl
      have cg60_1 : wz.cell? ⟨g6, 1, none⟩ = some (.slice Pb1 r1.length pb1) := (blk_cell M6_0.out.bx 1).trans rfl
      have cg60_2 : wz.cell? ⟨g6, 2, none⟩ = some (.slice Pb2 r2.length pb2) := (blk_cell M6_0.out.bx 2).trans rfl
      go_wp2_with (first | (go_at_call 8; (with_reducible refine (calls_sameM M4_2.out.om M6_0.out.om HE.out).mono ?_); rintro e w7 ⟨rfl, hb_⟩; have M4_3 := Aside0.mk (M4_2.out.below hb_); have HB3 := Aside0.mk (below_step HB2.out hb_); have cg43_0 : w7.cell? ⟨g4, 0, none⟩ = some (.slice Pa0 r0.length pa0) := (blk_cell M4_3.out.bx 0).trans rfl; have cg43_1 : w7.cell? ⟨g4, 1, none⟩ = some (.slice Pa1 r1.length pa1) := (blk_cell M4_3.out.bx 1).trans rfl; have cg43_2 : w7.cell? ⟨g4, 2, none⟩ = some (.slice Pa2 r2.length pa2) := (blk_cell M4_3.out.bx 2).trans rfl; clear hb_) | (go_at_call 10; (with_reducible refine (calls_ntri (w := w) (below_size HB3.out) HN.out).mono ?_); rintro e w8 ⟨v4, rfl, rw_, hb_⟩; have R8_4 := Aside0.mk rw_; have M4_4 := Aside0.mk (M4_3.out.below hb_); have HB4 := Aside0.mk (below_step HB3.out hb_); have cg44_0 : w8.cell? ⟨g4, 0, none⟩ = some (.slice Pa0 r0.length pa0) := (blk_cell M4_4.out.bx 0).trans rfl; have cg44_1 : w8.cell? ⟨g4, 1, none⟩ = some (.slice Pa1 r1.length pa1) := (blk_cell M4_4.out.bx 1).trans rfl; have cg44_2 : w8.cell? ⟨g4, 2, none⟩ = some (.slice Pa2 r2.length pa2) := (blk_cell M4_4.out.bx 2).trans rfl; clear rw_ hb_) | (go_at_call 11; (with_reducible refine (calls_any M4_4.out.om HA.out).mono ?_); rintro e w10 ⟨rfl, hb_⟩; have M4_5 := Aside0.mk (M4_4.out.below hb_); have R8_5 := Aside0.mk (R8_4.out.below hb_); have HB5 := Aside0.mk (below_step HB4.out hb_); have cg45_0 : w10.cell? ⟨g4, 0, none⟩ = some (.slice Pa0 r0.length pa0) := (blk_cell M4_5.out.bx 0).trans rfl; have cg45_1 : w10.cell? ⟨g4, 1, none⟩ = some (.slice Pa1 r1.length pa1) := (blk_cell M4_5.out.bx 1).trans rfl; have cg45_2 : w10.cell? ⟨g4, 2, none⟩ = some (.slice Pa2 r2.length pa2) := (blk_cell M4_5.out.bx 2).trans rfl; clear hb_) | (go_at_call 13; (with_reducible refine (calls_impl (w := w) (below_size HB5.out) M4_5.out.om HI2.out).mono ?_); rintro e w11 ⟨v6, rfl, rw_, _, hb_⟩; have R9_6 := Aside0.mk rw_; have R8_6 := Aside0.mk (R8_5.out.below hb_); have HB6 := Aside0.mk (below_step HB5.out hb_); clear rw_ hb_) | (go_at_call 12; (with_reducible refine (calls_same R9_6.out R8_6.out HE2.out).mono ?_); rintro e w12 ⟨rfl, hb_⟩; have HB7 := Aside0.mk (below_step HB6.out hb_); clear hb_))
      go_ret
      exact ⟨rfl, HB7.out⟩
end Go.Proofs.Ytiplbleghaoehaa.Man
