/- The law FnAnyOrder, its call: it returns true; no condition but the bytes' range and the facts on numbers that it is handed. -/
import Derived.Test.YtgaapfldimokpaaManRows
import Derived.Test.YtgaapfldimokpaaSemDraw
import Derived.Test.YtgaapfldimokpaaPAx29
import Derived.Test.YtgaapfldimokpaaPAx33
import Derived.Test.YtgaapfldimokpaaPAx35
import Derived.Test.YtgaapfldimokpaaPAx5
import Derived.Test.YtgaapfldimokpaaPAx25
import Derived.Test.YtgaapfldimokpaaPAx22
namespace Go.Proofs.Ytgaapfldimokpaa.Man
open Go.RowKit Go.Proofs.Ytgaapfldimokpaa.PA Go.Proofs.YtgaapfldimokpaaW.PrintWords Go.Proofs.YtgaapfldimokpaaW.PrintLast Go.Proofs.YtgaapfldimokpaaW.PrintMore
set_option linter.unusedVariables false
set_option linter.unusedSimpArgs false

section
variable {k : Nat} {w W : World} {v0 v1 v2 : Value} {l0 l1 l2 n0 n1 n2 : List Int}
theorem calls_any {q : Bool} (o : OM w W v0 v1 v2 l0 l1 l2) (h : impl_AnyOrder.f k l0 l1 l2 = some q) : Calls Try.prog 26 #[.agg #[v0, v1, v2]] W fun e w' => e = .returned (.bool q) ∧ Below W.heap.size W w' := by
  obtain ⟨A0, c0, A1, c1, A2, c2, rfl, rfl, rfl, q0, q1, q2, r0, r1, r2⟩ := o.reads
  exact impl_AnyOrder.calls k A0 c0 l0 A1 c1 l1 A2 c2 l2 q W r0 q0 r1 q1 r2 q2 h
theorem calls_anyS {q : Bool} (o : OM w W v0 v1 v2 l0 l1 l2) (h : spec_AnyOrder.f k l0 l1 l2 = some q) : Calls Try.prog 27 #[.agg #[v0, v1, v2]] W fun e w' => e = .returned (.bool q) ∧ Below W.heap.size W w' := by
  obtain ⟨A0, c0, A1, c1, A2, c2, rfl, rfl, rfl, q0, q1, q2, r0, r1, r2⟩ := o.reads
  exact spec_AnyOrder.calls k A0 c0 l0 A1 c1 l1 A2 c2 l2 q W r0 q0 r1 q1 r2 q2 h
theorem calls_not (hw : w.heap.size ≤ W.heap.size) (o : OM w W v0 v1 v2 l0 l1 l2) (h : impl_MachineNot.f k l0 l1 l2 = some (n0, n1, n2)) : Calls Try.prog 22 #[.agg #[v0, v1, v2]] W fun e w' => ∃ u0 u1 u2 : Value, e = .returned (.agg #[u0, u1, u2]) ∧ OM w w' u0 u1 u2 n0 n1 n2 ∧ Below W.heap.size W w' := by
  obtain ⟨A0, c0, A1, c1, A2, c2, rfl, rfl, rfl, q0, q1, q2, r0, r1, r2⟩ := o.reads
  exact (impl_MachineNot.calls k A0 c0 l0 A1 c1 l1 A2 c2 l2 n0 n1 n2 W r0 q0 r1 q1 r2 q2 h).mono (fun e w' ⟨u0, u1, u2, he, h0, h1, h2, hb⟩ => ⟨u0, u1, u2, he, (OM.made hw h0 h1 h2).1, hb⟩)
theorem calls_named {s : ByteArray} {b : Bool} (hw : w.heap.size ≤ W.heap.size) (h : impl_NamedMachine.f k s = some (n0, n1, n2, b)) : Calls Try.prog 9 #[.string s] W fun e w' => ∃ u0 u1 u2 : Value, e = .returned (.tuple #[.agg #[u0, u1, u2], .bool b]) ∧ OM w w' u0 u1 u2 n0 n1 n2 ∧ Below W.heap.size W w' :=
  (impl_NamedMachine.calls k s n0 n1 n2 b W h).mono (fun e w' ⟨u0, u1, u2, he, h0, h1, h2, hb⟩ => ⟨u0, u1, u2, he, (OM.made hw h0 h1 h2).1, hb⟩)
theorem calls_draw {A : Option Addr} {c : Nat} {l : List Int} (hr : Kd.C (Kd.int .u8) w A l.length l) (hc : l.length ≤ c) (h : spec_DrawAnyOrder.f k l = some (n0, n1, n2)) : Calls Try.prog 25 #[.slice A l.length c] w fun e w' => ∃ u0 u1 u2 : Value, e = .returned (.agg #[u0, u1, u2]) ∧ OM w w' u0 u1 u2 n0 n1 n2 ∧ Below w.heap.size w w' :=
  (spec_DrawAnyOrder.calls k A c l n0 n1 n2 w hr hc h).mono (fun e w' ⟨u0, u1, u2, he, h0, h1, h2, hb⟩ => ⟨u0, u1, u2, he, (OM.made (Nat.le_refl _) h0 h1 h2).1, hb⟩)
end
/-- What the law's calls answer. -/
structure OrderFacts (l : List Int) (kd k1 k2 k3 k4 k5 k6 k7 k8 : Nat) (o : Bool) (r0 r1 r2 n0 n1 n2 e0 e1 e2 f0 f1 f2 : List Int) : Prop where
  d : spec_DrawAnyOrder.f kd l = some (r0, r1, r2)
  a1 : impl_AnyOrder.f k1 r0 r1 r2 = some o
  a2 : spec_AnyOrder.f k2 r0 r1 r2 = some o
  m1 : impl_NamedMachine.f k3 (⟨#[101, 118, 101, 114, 121]⟩ : ByteArray) = some (e0, e1, e2, true)
  m2 : impl_NamedMachine.f k4 (⟨#[101, 118, 101, 110]⟩ : ByteArray) = some (f0, f1, f2, true)
  no : impl_MachineNot.f k5 r0 r1 r2 = some (n0, n1, n2)
  a3 : impl_AnyOrder.f k6 n0 n1 n2 = some o
  a4 : impl_AnyOrder.f k7 e0 e1 e2 = some true
  a5 : impl_AnyOrder.f k8 f0 f1 f2 = some true

set_option maxHeartbeats 8000000 in
set_option maxRecDepth 100000 in
theorem lawOrder (A : Option Addr) (c : Nat) (l : List Int) (w : World) (hr : Kd.C (Kd.int .u8) w A l.length l) (hc : l.length ≤ c) (F : (l.length : Int) > 1048576 ∨ ∃ kd k1 k2 k3 k4 k5 k6 k7 k8 o r0 r1 r2 n0 n1 n2 e0 e1 e2 f0 f1 f2, OrderFacts l kd k1 k2 k3 k4 k5 k6 k7 k8 o r0 r1 r2 n0 n1 n2 e0 e1 e2 f0 f1 f2) :
    Calls Try.prog 7 #[.slice A l.length c] w fun e w' => e = .returned (.bool true) ∧ Below w.heap.size w w' := by
  have hu24 := Try.underlying24
  have HR := Aside0.mk hr
  have HC := Aside0.mk hc; clear hr hc
  by_cases c2 : (l.length : Int) > 1048576
  · have c2b0 : decide (1048576 < (l.length : Int)) = true := decide_eq_true c2
    have c2b1 : decide (1048576 < l.length) = true := decide_eq_true (by omega); clear c2 F
    go_enter Try.func7, Try.ntmps7
    go_wp2
    go_ret
    exact ⟨rfl, Below.refl _ _⟩
  · obtain ⟨kd, k1, k2, k3, k4, k5, k6, k7, k8, o, r0, r1, r2, n0, n1, n2, e0, e1, e2, f0, f1, f2, F⟩ := F.resolve_left c2
    have c2b0 : decide (1048576 < (l.length : Int)) = false := decide_eq_false c2
    have c2b1 : decide (1048576 < l.length) = false := decide_eq_false (by omega); clear c2
    have HD := Aside0.mk F.d
    have HA1 := Aside0.mk F.a1
    have HA2 := Aside0.mk F.a2
    have HN1 := Aside0.mk F.m1
    have HN2 := Aside0.mk F.m2
    have HNo := Aside0.mk F.no
    have HA3 := Aside0.mk F.a3
    have HA4 := Aside0.mk F.a4
    have HA5 := Aside0.mk F.a5
    clear F
    have oo : (o == o) = true := beq_self_eq_true o
    have od : decide (o = o) = true := decide_eq_true rfl
    have on : (o != o) = false := bne_self_eq_false o
    go_enter Try.func7, Try.ntmps7
    go_wp2_with (first | (go_at_call 25; refine (calls_draw HR.out HC.out HD.out).mono ?_; rintro e w3 ⟨a0, a1, a2, rfl, om_, hb_⟩; obtain ⟨Pa0, pa0, Pa1, pa1, Pa2, pa2, rfl, rfl, rfl, _⟩ := om_.reads; have Oa := Aside0.mk om_; have HBa := Aside0.mk hb_; clear om_ hb_) | ((with_reducible refine gate_dst (N := 3) rfl ?_); refine box_event ?hg (N := 3) ?hd (cs := #[.slice none 0 0, .slice none 0 0, .slice none 0 0]) (t := 24) ?hr ?_; (case hd => rfl); (case hg => rfl); (case hr => first | (go_simp; done) | (go_simp; rfl)); intro g3 hg3 wg3 hbox hb; have M3 := Aside0.mk (Oa.out.boxed hg3 hbox hb); have HB3 := Aside0.mk (below_beside HBa.out hg3 hb (.slice Pa0 r0.length pa0) (.slice Pa1 r1.length pa1) (.slice Pa2 r2.length pa2)); have hcg3_0 : wg3.cell? ⟨g3, 0, none⟩ = some (.slice none 0 0) := (blk_cell hbox 0).trans rfl; have hfg3_0 := blk_frozen hbox 0; have hcg3_1 : wg3.cell? ⟨g3, 1, none⟩ = some (.slice none 0 0) := (blk_cell hbox 1).trans rfl; have hfg3_1 := blk_frozen hbox 1; have hcg3_2 : wg3.cell? ⟨g3, 2, none⟩ = some (.slice none 0 0) := (blk_cell hbox 2).trans rfl; have hfg3_2 := blk_frozen hbox 2; clear hbox hb hg3) | (go_at_call 26; (with_reducible refine (calls_any M3.out.om HA1.out).mono ?_); rintro e w5 ⟨rfl, hb_⟩; have M3b := Aside0.mk (M3.out.below hb_); have HB3b := Aside0.mk (below_step HB3.out hb_); have ca0 : w5.cell? ⟨g3, 0, none⟩ = some (.slice Pa0 r0.length pa0) := (blk_cell M3b.out.bx 0).trans rfl; have ca1 : w5.cell? ⟨g3, 1, none⟩ = some (.slice Pa1 r1.length pa1) := (blk_cell M3b.out.bx 1).trans rfl; have ca2 : w5.cell? ⟨g3, 2, none⟩ = some (.slice Pa2 r2.length pa2) := (blk_cell M3b.out.bx 2).trans rfl; clear hb_) | (go_at_call 27; (with_reducible refine (calls_anyS M3b.out.om HA2.out).mono ?_); rintro e w6 ⟨rfl, hb_⟩; have M3c := Aside0.mk (M3b.out.below hb_); have HB3c := Aside0.mk (below_step HB3b.out hb_); clear hb_) | (go_at_call 9; (with_reducible refine (calls_named (w := w) (below_size HB3c.out) HN1.out).mono ?_); rintro e w7 ⟨b0, b1, b2, rfl, om_, hb_⟩; obtain ⟨Pb0, pb0, Pb1, pb1, Pb2, pb2, rfl, rfl, rfl, _⟩ := om_.reads; have Ob := Aside0.mk om_; have M3d := Aside0.mk (M3c.out.below hb_); have HBd := Aside0.mk (below_step HB3c.out hb_); clear om_ hb_) | ((with_reducible refine gate_dst (N := 5) rfl ?_); refine box_event ?hg (N := 5) ?hd (cs := #[.slice none 0 0, .slice none 0 0, .slice none 0 0]) (t := 24) ?hr ?_; (case hd => rfl); (case hg => rfl); (case hr => first | (go_simp; done) | (go_simp; rfl)); intro g5 hg5 wg5 hbox hb; have M5 := Aside0.mk (Ob.out.boxed hg5 hbox hb); have HBe := Aside0.mk (below_beside HBd.out hg5 hb (.slice Pb0 e0.length pb0) (.slice Pb1 e1.length pb1) (.slice Pb2 e2.length pb2)); have M3e := Aside0.mk (M3d.out.beside hg5 hb (.slice Pb0 e0.length pb0) (.slice Pb1 e1.length pb1) (.slice Pb2 e2.length pb2)); have hcg5_0 : wg5.cell? ⟨g5, 0, none⟩ = some (.slice none 0 0) := (blk_cell hbox 0).trans rfl; have hfg5_0 := blk_frozen hbox 0; have hcg5_1 : wg5.cell? ⟨g5, 1, none⟩ = some (.slice none 0 0) := (blk_cell hbox 1).trans rfl; have hfg5_1 := blk_frozen hbox 1; have hcg5_2 : wg5.cell? ⟨g5, 2, none⟩ = some (.slice none 0 0) := (blk_cell hbox 2).trans rfl; have hfg5_2 := blk_frozen hbox 2; clear hbox hb hg5) | (go_at_call 9; (with_reducible refine (calls_named (w := w) (below_size HBe.out) HN2.out).mono ?_); rintro e w9 ⟨d0, d1, d2, rfl, om_, hb_⟩; obtain ⟨Pd0, pd0, Pd1, pd1, Pd2, pd2, rfl, rfl, rfl, _⟩ := om_.reads; have Od := Aside0.mk om_; have M3f := Aside0.mk (M3e.out.below hb_); have M5f := Aside0.mk (M5.out.below hb_); have HBf := Aside0.mk (below_step HBe.out hb_); clear om_ hb_) | ((with_reducible refine gate_dst (N := 7) rfl ?_); refine box_event ?hg (N := 7) ?hd (cs := #[.slice none 0 0, .slice none 0 0, .slice none 0 0]) (t := 24) ?hr ?_; (case hd => rfl); (case hg => rfl); (case hr => first | (go_simp; done) | (go_simp; rfl)); intro g7 hg7 wg7 hbox hb; have M7 := Aside0.mk (Od.out.boxed hg7 hbox hb); have HBg := Aside0.mk (below_beside HBf.out hg7 hb (.slice Pd0 f0.length pd0) (.slice Pd1 f1.length pd1) (.slice Pd2 f2.length pd2)); have M3g := Aside0.mk (M3f.out.beside hg7 hb (.slice Pd0 f0.length pd0) (.slice Pd1 f1.length pd1) (.slice Pd2 f2.length pd2)); have M5g := Aside0.mk (M5f.out.beside hg7 hb (.slice Pd0 f0.length pd0) (.slice Pd1 f1.length pd1) (.slice Pd2 f2.length pd2)); have hcg7_0 : wg7.cell? ⟨g7, 0, none⟩ = some (.slice none 0 0) := (blk_cell hbox 0).trans rfl; have hfg7_0 := blk_frozen hbox 0; have hcg7_1 : wg7.cell? ⟨g7, 1, none⟩ = some (.slice none 0 0) := (blk_cell hbox 1).trans rfl; have hfg7_1 := blk_frozen hbox 1; have hcg7_2 : wg7.cell? ⟨g7, 2, none⟩ = some (.slice none 0 0) := (blk_cell hbox 2).trans rfl; have hfg7_2 := blk_frozen hbox 2; have NE := Aside0.mk (show g3 ≠ g7 by have := blk_lt M3f.out.bx; omega); have ne37 := NE.out; have ne73 := NE.out.symm; have cx0 : wg7.cell? ⟨g3, 0, none⟩ = some (.slice Pa0 r0.length pa0) := (blk_cell (blk_below M3f.out.bx hb) 0).trans rfl; have cx1 : wg7.cell? ⟨g3, 1, none⟩ = some (.slice Pa1 r1.length pa1) := (blk_cell (blk_below M3f.out.bx hb) 1).trans rfl; have cx2 : wg7.cell? ⟨g3, 2, none⟩ = some (.slice Pa2 r2.length pa2) := (blk_cell (blk_below M3f.out.bx hb) 2).trans rfl; clear hbox hb hg7) | (go_at_call 22; (with_reducible refine (calls_not (w := w) (below_size HBg.out) M3g.out.om HNo.out).mono ?_); rintro e w11 ⟨x0, x1, x2, rfl, om_, hb_⟩; obtain ⟨Px0, px0, Px1, px1, Px2, px2, rfl, rfl, rfl, _⟩ := om_.reads; have Ox := Aside0.mk om_; have M5h := Aside0.mk (M5g.out.below hb_); have M7h := Aside0.mk (M7.out.below hb_); have HBh := Aside0.mk (below_step HBg.out hb_); clear om_ hb_) | (go_at_call 26; (with_reducible refine (calls_any Ox.out HA3.out).mono ?_); rintro e w12 ⟨rfl, hb_⟩; have M5i := Aside0.mk (M5h.out.below hb_); have M7i := Aside0.mk (M7h.out.below hb_); have HBi := Aside0.mk (below_step HBh.out hb_); have cb0 : w12.cell? ⟨g5, 0, none⟩ = some (.slice Pb0 e0.length pb0) := (blk_cell M5i.out.bx 0).trans rfl; have cb1 : w12.cell? ⟨g5, 1, none⟩ = some (.slice Pb1 e1.length pb1) := (blk_cell M5i.out.bx 1).trans rfl; have cb2 : w12.cell? ⟨g5, 2, none⟩ = some (.slice Pb2 e2.length pb2) := (blk_cell M5i.out.bx 2).trans rfl; clear hb_) | (go_at_call 26; (with_reducible refine (calls_any M5i.out.om HA4.out).mono ?_); rintro e w13 ⟨rfl, hb_⟩; have M7j := Aside0.mk (M7i.out.below hb_); have HBj := Aside0.mk (below_step HBi.out hb_); have cd0 : w13.cell? ⟨g7, 0, none⟩ = some (.slice Pd0 f0.length pd0) := (blk_cell M7j.out.bx 0).trans rfl; have cd1 : w13.cell? ⟨g7, 1, none⟩ = some (.slice Pd1 f1.length pd1) := (blk_cell M7j.out.bx 1).trans rfl; have cd2 : w13.cell? ⟨g7, 2, none⟩ = some (.slice Pd2 f2.length pd2) := (blk_cell M7j.out.bx 2).trans rfl; clear hb_) | (go_at_call 26; (with_reducible refine (calls_any M7j.out.om HA5.out).mono ?_); rintro e w14 ⟨rfl, hb_⟩; have HBk := Aside0.mk (below_step HBj.out hb_); clear hb_) | (go_at_call 20; (with_reducible refine (laws_alive.calls true _ Sem.alive_ok).mono ?_); rintro e w15 ⟨rfl, ⟨nd, rfl⟩⟩))
    go_ret
    exact ⟨rfl, by repeat (first | exact HBk.out | apply pw_below_drewN | apply below_drew1)⟩
end Go.Proofs.Ytgaapfldimokpaa.Man
