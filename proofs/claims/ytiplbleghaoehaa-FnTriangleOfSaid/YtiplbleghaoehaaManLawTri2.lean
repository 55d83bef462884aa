/- The law FnTriangleOf, its call: it returns true; no condition but the bytes' range and the facts on numbers that it is handed. -/
import Derived.Test.YtiplbleghaoehaaManRW
import Derived.Test.YtiplbleghaoehaaManNot
import Derived.Test.YtiplbleghaoehaaSemA
import Derived.Test.YtiplbleghaoehaaPAx24
import Derived.Test.YtiplbleghaoehaaPAx18
import Derived.Test.YtiplbleghaoehaaPAx28
import Derived.Test.YtiplbleghaoehaaPAx16
import Derived.Test.YtiplbleghaoehaaPAx29
import Derived.Test.YtiplbleghaoehaaPAx30
import Derived.Test.YtiplbleghaoehaaPAx10
import Derived.Test.YtiplbleghaoehaaPAx11
namespace Go.Proofs.Ytiplbleghaoehaa.Man
open Go.RowKit Go.Proofs.Ytiplbleghaoehaa.PA Go.Proofs.YtiplbleghaoehaaW.PrintWords Go.Proofs.YtiplbleghaoehaaW.PrintLast Go.Proofs.YtiplbleghaoehaaW.PrintMore
set_option linter.unusedVariables false
set_option linter.unusedSimpArgs false

section
variable {w W W' : World} {v v0 v1 v2 u : Value} {l l0 l1 l2 n n0 n1 n2 : List Int} {k : Nat}
theorem calls_spec (hw : w.heap.size ≤ W.heap.size) (o : OM w W v0 v1 v2 l0 l1 l2) (h : spec_TriangleOf.f k l0 l1 l2 = some n) : Calls Try.prog 15 #[.agg #[v0, v1, v2]] W (GivesR w W n) := by
  obtain ⟨A0, c0, A1, c1, A2, c2, rfl, rfl, rfl, q0, q1, q2, r0, r1, r2⟩ := o.reads
  exact (spec_TriangleOf.calls k A0 c0 l0 A1 c1 l1 A2 c2 l2 n W r0 q0 r1 q1 r2 q2 h).mono (fun e w' ⟨u, he, h0, hb⟩ => ⟨u, he, Kd.R_lower (Kd.R_tight rfl h0) hw, fun k hk => Kd.R_base h0 k hk.symm, hb⟩)
theorem calls_impl (hw : w.heap.size ≤ W.heap.size) (o : OM w W v0 v1 v2 l0 l1 l2) (h : impl_TriangleOf.f k l0 l1 l2 = some n) : Calls Try.prog 13 #[.agg #[v0, v1, v2]] W (GivesR w W n) := by
  obtain ⟨A0, c0, A1, c1, A2, c2, rfl, rfl, rfl, q0, q1, q2, r0, r1, r2⟩ := o.reads
  exact (impl_TriangleOf.calls k A0 c0 l0 A1 c1 l1 A2 c2 l2 n W r0 q0 r1 q1 r2 q2 h).mono (fun e w' ⟨u, he, h0, hb⟩ => ⟨u, he, Kd.R_lower (Kd.R_tight rfl h0) hw, fun k hk => Kd.R_base h0 k hk.symm, hb⟩)
theorem calls_any {q : Bool} (o : OM w W v0 v1 v2 l0 l1 l2) (h : impl_AnyOrder.f k l0 l1 l2 = some q) : Calls Try.prog 11 #[.agg #[v0, v1, v2]] W fun e w' => e = .returned (.bool q) ∧ Below W.heap.size W w' := by
  obtain ⟨A0, c0, A1, c1, A2, c2, rfl, rfl, rfl, q0, q1, q2, r0, r1, r2⟩ := o.reads
  exact impl_AnyOrder.calls k A0 c0 l0 A1 c1 l1 A2 c2 l2 q W r0 q0 r1 q1 r2 q2 h
theorem calls_not (hw : w.heap.size ≤ W.heap.size) (o : OM w W v0 v1 v2 l0 l1 l2) (h : impl_MachineNot.f k l0 l1 l2 = some (n0, n1, n2)) : Calls Try.prog 17 #[.agg #[v0, v1, v2]] W fun e w' => ∃ u0 u1 u2 : Value, e = .returned (.agg #[u0, u1, u2]) ∧ OM w w' u0 u1 u2 n0 n1 n2 ∧ Below W.heap.size W w' := by
  obtain ⟨A0, c0, A1, c1, A2, c2, rfl, rfl, rfl, q0, q1, q2, r0, r1, r2⟩ := o.reads
  exact (impl_MachineNot.calls k A0 c0 l0 A1 c1 l1 A2 c2 l2 n0 n1 n2 W r0 q0 r1 q1 r2 q2 h).mono (fun e w' ⟨u0, u1, u2, he, h0, h1, h2, hb⟩ => ⟨u0, u1, u2, he, (OM.made hw h0 h1 h2).1, hb⟩)
theorem calls_draw {A : Option Addr} {c : Nat} {l : List Int} (hr : Kd.C (Kd.int .u8) w A l.length l) (hc : l.length ≤ c) (h : spec_DrawTriangleOf.f k l = some (n0, n1, n2)) : Calls Try.prog 14 #[.slice A l.length c] w fun e w' => ∃ u0 u1 u2 : Value, e = .returned (.agg #[u0, u1, u2]) ∧ OM w w' u0 u1 u2 n0 n1 n2 ∧ Below w.heap.size w w' :=
  (spec_DrawTriangleOf.calls k A c l n0 n1 n2 w hr hc h).mono (fun e w' ⟨u0, u1, u2, he, h0, h1, h2, hb⟩ => ⟨u0, u1, u2, he, (OM.made (Nat.le_refl _) h0 h1 h2).1, hb⟩)
theorem calls_same (o : RW w W v l) (p : RW w W u l) (h : laws_sameInts.f k l l = some true) : Calls Try.prog 12 #[v, u] W fun e w' => e = .returned (.bool true) ∧ Below W.heap.size W w' := by
  obtain ⟨A, c, rfl, q, r⟩ := o.reads
  obtain ⟨B, d, rfl, s, t⟩ := p.reads
  exact (laws_sameInts.calls k A c l B d l true W r q t s h).mono (fun e w' ⟨he, hd⟩ => ⟨he, below_drawnN hd⟩)
theorem calls_ok (o : RW w W v l) (h : impl_TriangleOk.f k l = some true) : Calls Try.prog 16 #[v] W fun e w' => e = .returned (.bool true) ∧ Below W.heap.size W w' := by
  obtain ⟨A, c, rfl, q, r⟩ := o.reads
  exact (impl_TriangleOk.calls k A c l true W r q h).mono (fun e w' ⟨he, hd⟩ => ⟨he, by first | exact hd | exact below_drawnN hd⟩)

set_option maxHeartbeats 2000000 in
set_option maxRecDepth 100000 in
theorem calls_notOf (hw : w.heap.size ≤ W.heap.size) (o : RW w W v l) (hl : 21 ≤ l.length) (h : impl_isTriangle.f k l = some true) : Calls Try.prog 18 #[v] W (GivesR w W (triRow (notP l))) := by
  obtain ⟨A, c, rfl, q, r⟩ := o.reads
  have HI := Aside0.mk (impl_isTriangle.calls k A c l true W r q h)
  have HN := Aside0.mk (fun W' (hb : Below W.heap.size W W') => notOf A c l W' (Kd.C_below r hb) hl)
  have HW := Aside0.mk hw
  clear o r q h hl hw
  go_enter Try.func18, Try.ntmps18
  go_wp2_with (first | (go_at_call 36; refine HI.out.mono ?_; rintro e w2 ⟨rfl, hd_⟩; have HB2 := Aside0.mk (show Below W.heap.size W w2 by first | exact hd_ | exact below_drawnN hd_); clear hd_) | (go_at_call 37; refine (HN.out _ HB2.out).mono ?_; rintro e w3 ⟨v, rfl, hv_, hb_⟩; have HV := Aside0.mk (Kd.R_lower hv_ (below_size HB2.out)); have HB3 := Aside0.mk (below_step HB2.out hb_); clear hv_ hb_))
  go_ret
  exact ⟨_, rfl, Kd.R_lower (Kd.R_tight rfl HV.out) HW.out, fun k hk => Kd.R_base HV.out k hk.symm, HB3.out⟩
end
/-- What the law's calls answer. -/
structure TriFacts (l : List Int) (kd k1 k2 k3 : Nat) (r0 r1 r2 T : List Int) : Prop where
  d : spec_DrawTriangleOf.f kd l = some (r0, r1, r2)
  i : impl_TriangleOf.f k1 r0 r1 r2 = some T
  s : spec_TriangleOf.f k2 r0 r1 r2 = some T
  e : laws_sameInts.f k3 T T = some true
structure TriFacts2 (k4 k5 k6 k7 k8 : Nat) (r0 r1 r2 T n0 n1 n2 : List Int) : Prop where
  len : 21 ≤ T.length
  ok : impl_TriangleOk.f k4 T = some true
  it : impl_isTriangle.f k5 T = some true
  no : impl_MachineNot.f k6 r0 r1 r2 = some (n0, n1, n2)
  i2 : impl_TriangleOf.f k7 n0 n1 n2 = some (triRow (notP T))
  e2 : laws_sameInts.f k8 (triRow (notP T)) (triRow (notP T)) = some true

set_option maxHeartbeats 2000000 in
set_option maxRecDepth 100000 in
theorem lawTri2 (A : Option Addr) (c : Nat) (l : List Int) (w : World) (hr : Kd.C (Kd.int .u8) w A l.length l) (hc : l.length ≤ c) (F : (l.length : Int) > 1048576 ∨ ∃ kd k1 k2 k3 r0 r1 r2 T, TriFacts l kd k1 k2 k3 r0 r1 r2 T ∧ ((T = [] ∧ ∃ k4, impl_AnyOrder.f k4 r0 r1 r2 = some false) ∨ ∃ k4 k5 k6 k7 k8 n0 n1 n2, TriFacts2 k4 k5 k6 k7 k8 r0 r1 r2 T n0 n1 n2)) :
    Calls Try.prog 4 #[.slice A l.length c] w fun e w' => e = .returned (.bool true) ∧ Below w.heap.size w w' := by
  have hu24 := Try.underlying26
  have HR := Aside0.mk hr
  have HC := Aside0.mk hc; clear hr hc
  by_cases c2 : (l.length : Int) > 1048576
  · have c2b0 : decide (1048576 < (l.length : Int)) = true := decide_eq_true c2
    have c2b1 : decide (1048576 < l.length) = true := decide_eq_true (by omega); clear c2 F
    go_enter Try.func4, Try.ntmps4
    go_wp2
    go_ret
    exact ⟨rfl, Below.refl _ _⟩
  · obtain ⟨kd, k1, k2, k3, r0, r1, r2, T, F, G⟩ := F.resolve_left c2
    have c2b0 : decide (1048576 < (l.length : Int)) = false := decide_eq_false c2
    have c2b1 : decide (1048576 < l.length) = false := decide_eq_false (by omega); clear c2
    have HD := Aside0.mk F.d
    have HI := Aside0.mk F.i
    have HS := Aside0.mk F.s
    have HE := Aside0.mk F.e
    clear F
    rcases G with ⟨hT, k4, hA⟩ | ⟨k4, k5, k6, k7, k8, n0, n1, n2, G⟩
    · have HA := Aside0.mk hA; clear hA
      have t0 : ((T.length : Int) == 0) = true := beq_iff_eq.2 (by rw [hT]; rfl)
      have t1 : (T.length == 0) = true := beq_iff_eq.2 (by rw [hT]; rfl)
      clear hT
      go_enter Try.func4, Try.ntmps4
      go_upto_region 7 with (first | (go_at_call 14; refine (calls_draw HR.out HC.out HD.out).mono ?_; rintro e w3 ⟨a0, a1, a2, rfl, om_, hb_⟩; obtain ⟨Pa0, pa0, Pa1, pa1, Pa2, pa2, rfl, rfl, rfl, _⟩ := om_.reads; have Oa := Aside0.mk om_; have HBa := Aside0.mk hb_; clear om_ hb_) | ((with_reducible refine gate_dst (N := 3) rfl ?_); refine box_event ?hg (N := 3) ?hd (cs := #[.slice none 0 0, .slice none 0 0, .slice none 0 0]) (t := 26) ?hr ?_; (case hd => rfl); (case hg => rfl); (case hr => first | (go_simp; done) | (go_simp; rfl)); intro g3 hg3 wg3 hbox hb; have M3_0 := Aside0.mk (Oa.out.boxed hg3 hbox hb); have HB0 := Aside0.mk (below_beside HBa.out hg3 hb (.slice Pa0 r0.length pa0) (.slice Pa1 r1.length pa1) (.slice Pa2 r2.length pa2)); have hcg3_0 : wg3.cell? ⟨g3, 0, none⟩ = some (.slice none 0 0) := (blk_cell hbox 0).trans rfl; have hfg3_0 := blk_frozen hbox 0; have hcg3_1 : wg3.cell? ⟨g3, 1, none⟩ = some (.slice none 0 0) := (blk_cell hbox 1).trans rfl; have hfg3_1 := blk_frozen hbox 1; have hcg3_2 : wg3.cell? ⟨g3, 2, none⟩ = some (.slice none 0 0) := (blk_cell hbox 2).trans rfl; have hfg3_2 := blk_frozen hbox 2; clear hbox hb hg3) | (go_at_call 13; (with_reducible refine (calls_impl (w := w) (below_size HB0.out) M3_0.out.om HI.out).mono ?_); rintro e w5 ⟨v4, rfl, rw_, _, hb_⟩; obtain ⟨P4, p4, rfl, _, _⟩ := rw_.reads; have R4_1 := Aside0.mk rw_; have M3_1 := Aside0.mk (M3_0.out.below hb_); have HB1 := Aside0.mk (below_step HB0.out hb_); have cw50_ : w5.cell? ⟨g3, 0, none⟩ = some (.slice Pa0 r0.length pa0) := (blk_cell M3_1.out.bx 0).trans rfl; have cw51_ : w5.cell? ⟨g3, 1, none⟩ = some (.slice Pa1 r1.length pa1) := (blk_cell M3_1.out.bx 1).trans rfl; have cw52_ : w5.cell? ⟨g3, 2, none⟩ = some (.slice Pa2 r2.length pa2) := (blk_cell M3_1.out.bx 2).trans rfl; clear rw_ hb_) | (go_at_call 15; (with_reducible refine (calls_spec (w := w) (below_size HB1.out) M3_1.out.om HS.out).mono ?_); rintro e w6 ⟨v5, rfl, rw_, _, hb_⟩; have R5_2 := Aside0.mk rw_; have M3_2 := Aside0.mk (M3_1.out.below hb_); have R4_2 := Aside0.mk (R4_1.out.below hb_); have HB2 := Aside0.mk (below_step HB1.out hb_); clear rw_ hb_) | (go_at_call 12; (with_reducible refine (calls_same R4_2.out R5_2.out HE.out).mono ?_); rintro e w7 ⟨rfl, hb_⟩; have M3_3 := Aside0.mk (M3_2.out.below hb_); have R4_3 := Aside0.mk (R4_2.out.below hb_); have HB3 := Aside0.mk (below_step HB2.out hb_); have cw70_ : w7.cell? ⟨g3, 0, none⟩ = some (.slice Pa0 r0.length pa0) := (blk_cell M3_3.out.bx 0).trans rfl; have cw71_ : w7.cell? ⟨g3, 1, none⟩ = some (.slice Pa1 r1.length pa1) := (blk_cell M3_3.out.bx 1).trans rfl; have cw72_ : w7.cell? ⟨g3, 2, none⟩ = some (.slice Pa2 r2.length pa2) := (blk_cell M3_3.out.bx 2).trans rfl; clear hb_))
      (try simp only [Act.put, List.setIfInBounds_toArray, List.set_cons_zero, List.set_cons_succ])
      go_wp2_with (first | (go_at_call 11; (with_reducible refine (calls_any M3_3.out.om HA.out).mono ?_); rintro e w8 ⟨rfl, hb_⟩; have HB4 := Aside0.mk (below_step HB3.out hb_); clear hb_) | (go_at_call 9; (with_reducible refine (laws_alive.calls true _ Sem.alive_ok).mono ?_); rintro e w9 ⟨rfl, hd_⟩; have HB5 := Aside0.mk (below_step HB4.out (below_drawnN hd_)); clear hd_))
      go_ret
      exact ⟨rfl, HB5.out⟩
    · have HL := Aside0.mk G.len
      have HK := Aside0.mk G.ok
      have HIT := Aside0.mk G.it
      have HN := Aside0.mk G.no
      have HI2 := Aside0.mk G.i2
      have HE2 := Aside0.mk G.e2
      have t0 : ((T.length : Int) == 0) = false := beq_eq_false_iff_ne.2 (by have := G.len; omega)
      have t1 : (T.length == 0) = false := beq_eq_false_iff_ne.2 (by have := G.len; omega)
      clear G
      go_enter Try.func4, Try.ntmps4
      go_upto_region 7 with (first | (go_at_call 14; refine (calls_draw HR.out HC.out HD.out).mono ?_; rintro e w3 ⟨a0, a1, a2, rfl, om_, hb_⟩; obtain ⟨Pa0, pa0, Pa1, pa1, Pa2, pa2, rfl, rfl, rfl, _⟩ := om_.reads; have Oa := Aside0.mk om_; have HBa := Aside0.mk hb_; clear om_ hb_) | ((with_reducible refine gate_dst (N := 3) rfl ?_); refine box_event ?hg (N := 3) ?hd (cs := #[.slice none 0 0, .slice none 0 0, .slice none 0 0]) (t := 26) ?hr ?_; (case hd => rfl); (case hg => rfl); (case hr => first | (go_simp; done) | (go_simp; rfl)); intro g3 hg3 wg3 hbox hb; have M3_0 := Aside0.mk (Oa.out.boxed hg3 hbox hb); have HB0 := Aside0.mk (below_beside HBa.out hg3 hb (.slice Pa0 r0.length pa0) (.slice Pa1 r1.length pa1) (.slice Pa2 r2.length pa2)); have hcg3_0 : wg3.cell? ⟨g3, 0, none⟩ = some (.slice none 0 0) := (blk_cell hbox 0).trans rfl; have hfg3_0 := blk_frozen hbox 0; have hcg3_1 : wg3.cell? ⟨g3, 1, none⟩ = some (.slice none 0 0) := (blk_cell hbox 1).trans rfl; have hfg3_1 := blk_frozen hbox 1; have hcg3_2 : wg3.cell? ⟨g3, 2, none⟩ = some (.slice none 0 0) := (blk_cell hbox 2).trans rfl; have hfg3_2 := blk_frozen hbox 2; clear hbox hb hg3) | (go_at_call 13; (with_reducible refine (calls_impl (w := w) (below_size HB0.out) M3_0.out.om HI.out).mono ?_); rintro e w5 ⟨v4, rfl, rw_, _, hb_⟩; obtain ⟨P4, p4, rfl, _, _⟩ := rw_.reads; have R4_1 := Aside0.mk rw_; have M3_1 := Aside0.mk (M3_0.out.below hb_); have HB1 := Aside0.mk (below_step HB0.out hb_); have cw50_ : w5.cell? ⟨g3, 0, none⟩ = some (.slice Pa0 r0.length pa0) := (blk_cell M3_1.out.bx 0).trans rfl; have cw51_ : w5.cell? ⟨g3, 1, none⟩ = some (.slice Pa1 r1.length pa1) := (blk_cell M3_1.out.bx 1).trans rfl; have cw52_ : w5.cell? ⟨g3, 2, none⟩ = some (.slice Pa2 r2.length pa2) := (blk_cell M3_1.out.bx 2).trans rfl; clear rw_ hb_) | (go_at_call 15; (with_reducible refine (calls_spec (w := w) (below_size HB1.out) M3_1.out.om HS.out).mono ?_); rintro e w6 ⟨v5, rfl, rw_, _, hb_⟩; have R5_2 := Aside0.mk rw_; have M3_2 := Aside0.mk (M3_1.out.below hb_); have R4_2 := Aside0.mk (R4_1.out.below hb_); have HB2 := Aside0.mk (below_step HB1.out hb_); clear rw_ hb_) | (go_at_call 12; (with_reducible refine (calls_same R4_2.out R5_2.out HE.out).mono ?_); rintro e w7 ⟨rfl, hb_⟩; have M3_3 := Aside0.mk (M3_2.out.below hb_); have R4_3 := Aside0.mk (R4_2.out.below hb_); have HB3 := Aside0.mk (below_step HB2.out hb_); have cw70_ : w7.cell? ⟨g3, 0, none⟩ = some (.slice Pa0 r0.length pa0) := (blk_cell M3_3.out.bx 0).trans rfl; have cw71_ : w7.cell? ⟨g3, 1, none⟩ = some (.slice Pa1 r1.length pa1) := (blk_cell M3_3.out.bx 1).trans rfl; have cw72_ : w7.cell? ⟨g3, 2, none⟩ = some (.slice Pa2 r2.length pa2) := (blk_cell M3_3.out.bx 2).trans rfl; clear hb_))
      (try simp only [Act.put, List.setIfInBounds_toArray, List.set_cons_zero, List.set_cons_succ])
      go_wp2_with (first | (go_at_call 16; (with_reducible refine (calls_ok R4_3.out HK.out).mono ?_); rintro e w8 ⟨rfl, hb_⟩; have M3_4 := Aside0.mk (M3_3.out.below hb_); have R4_4 := Aside0.mk (R4_3.out.below hb_); have HB4 := Aside0.mk (below_step HB3.out hb_); have cw80_ : w8.cell? ⟨g3, 0, none⟩ = some (.slice Pa0 r0.length pa0) := (blk_cell M3_4.out.bx 0).trans rfl; have cw81_ : w8.cell? ⟨g3, 1, none⟩ = some (.slice Pa1 r1.length pa1) := (blk_cell M3_4.out.bx 1).trans rfl; have cw82_ : w8.cell? ⟨g3, 2, none⟩ = some (.slice Pa2 r2.length pa2) := (blk_cell M3_4.out.bx 2).trans rfl; clear hb_) | (go_at_call 17; (with_reducible refine (calls_not (w := w) (below_size HB4.out) M3_4.out.om HN.out).mono ?_); rintro e w9 ⟨b0, b1, b2, rfl, om_, hb_⟩; have Ob := Aside0.mk om_; have R4_5 := Aside0.mk (R4_4.out.below hb_); have HB5 := Aside0.mk (below_step HB4.out hb_); clear om_ hb_) | (go_at_call 13; (with_reducible refine (calls_impl (w := w) (below_size HB5.out) Ob.out HI2.out).mono ?_); rintro e w10 ⟨v6, rfl, rw_, _, hb_⟩; have R6_6 := Aside0.mk rw_; have R4_6 := Aside0.mk (R4_5.out.below hb_); have HB6 := Aside0.mk (below_step HB5.out hb_); clear rw_ hb_) | (go_at_call 18; (with_reducible refine (calls_notOf (w := w) (below_size HB6.out) R4_6.out HL.out HIT.out).mono ?_); rintro e w11 ⟨v7, rfl, rw_, _, hb_⟩; have R7_7 := Aside0.mk rw_; have R6_7 := Aside0.mk (R6_6.out.below hb_); have HB7 := Aside0.mk (below_step HB6.out hb_); clear rw_ hb_) | (go_at_call 12; (with_reducible refine (calls_same R6_7.out R7_7.out HE2.out).mono ?_); rintro e w12 ⟨rfl, hb_⟩; have HB8 := Aside0.mk (below_step HB7.out hb_); clear hb_))
      go_ret
      exact ⟨rfl, HB8.out⟩
end Go.Proofs.Ytiplbleghaoehaa.Man
