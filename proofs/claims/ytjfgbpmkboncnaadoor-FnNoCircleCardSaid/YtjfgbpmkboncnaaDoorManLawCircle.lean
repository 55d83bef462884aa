/- The law FnNoCircle, its call: it returns true; no condition but the facts on numbers that it is handed. -/
import Derived.Test.YtjfgbpmkboncnaaDoorManRows
import Derived.Test.YtjfgbpmkboncnaaDoorSemDraw
import Derived.Test.YtjfgbpmkboncnaaDoorPAx20
import Derived.Test.YtjfgbpmkboncnaaDoorPAx27
import Derived.Test.YtjfgbpmkboncnaaDoorPAx23
import Derived.Test.YtjfgbpmkboncnaaDoorPAx25
import Derived.Test.YtjfgbpmkboncnaaDoorPAx28
import Derived.Test.YtjfgbpmkboncnaaDoorPAx9
import Derived.Test.YtjfgbpmkboncnaaDoorPAx29
namespace Go.Proofs.YtjfgbpmkboncnaaDoor.Man
open Go.RowKit Go.Proofs.YtjfgbpmkboncnaaDoor.PA Go.Proofs.YtjfgbpmkboncnaaDoorW.PrintWords Go.Proofs.YtjfgbpmkboncnaaDoorW.PrintLast Go.Proofs.YtjfgbpmkboncnaaDoorW.PrintMore
set_option linter.unusedVariables false
set_option linter.unusedSimpArgs false

/-- A row of one letter. -/
def rep (x : UInt8) (n : Nat) : ByteArray := ⟨(List.replicate n x).toArray⟩
theorem rep_list (x : UInt8) (n : Nat) : (rep x n).data.toList = List.replicate n x := rfl
theorem rep_size (x : UInt8) (n : Nat) : (rep x n).size = n := by
  show (List.replicate n x).toArray.size = n
  rw [List.size_toArray, List.length_replicate]
theorem rep_succ (x : UInt8) (n : Nat) : rep x n ++ (⟨#[x]⟩ : ByteArray) = rep x (n + 1) := by
  apply ByteArray.ext
  rw [ByteArray.data_append]
  apply Array.toList_inj.1
  rw [Array.toList_append]
  exact (List.replicate_succ').symm
section
variable {k : Nat} {w W : World} {v0 v1 v2 : Value} {l0 l1 l2 n0 n1 n2 : List Int}
theorem calls_any {q : Bool} (o : OM w W v0 v1 v2 l0 l1 l2) (h : impl_AnyOrder.f k l0 l1 l2 = some q) : Calls Tryd.prog 13 #[.agg #[v0, v1, v2]] W fun e w' => e = .returned (.bool q) ∧ Below W.heap.size W w' := by
  obtain ⟨A0, c0, A1, c1, A2, c2, rfl, rfl, rfl, q0, q1, q2, r0, r1, r2⟩ := o.reads
  exact impl_AnyOrder.calls k A0 c0 l0 A1 c1 l1 A2 c2 l2 q W r0 q0 r1 q1 r2 q2 h
theorem calls_noc {q : Bool} (o : OM w W v0 v1 v2 l0 l1 l2) (h : impl_NoCircle.f k l0 l1 l2 = some q) : Calls Tryd.prog 11 #[.agg #[v0, v1, v2]] W fun e w' => e = .returned (.bool q) ∧ Below W.heap.size W w' := by
  obtain ⟨A0, c0, A1, c1, A2, c2, rfl, rfl, rfl, q0, q1, q2, r0, r1, r2⟩ := o.reads
  exact impl_NoCircle.calls k A0 c0 l0 A1 c1 l1 A2 c2 l2 q W r0 q0 r1 q1 r2 q2 h
theorem calls_nocS {q : Bool} (o : OM w W v0 v1 v2 l0 l1 l2) (h : spec_NoCircle.f k l0 l1 l2 = some q) : Calls Tryd.prog 12 #[.agg #[v0, v1, v2]] W fun e w' => e = .returned (.bool q) ∧ Below W.heap.size W w' := by
  obtain ⟨A0, c0, A1, c1, A2, c2, rfl, rfl, rfl, q0, q1, q2, r0, r1, r2⟩ := o.reads
  exact spec_NoCircle.calls k A0 c0 l0 A1 c1 l1 A2 c2 l2 q W r0 q0 r1 q1 r2 q2 h
theorem calls_says {q : Bool} {s : ByteArray} (o : OM w W v0 v1 v2 l0 l1 l2) (h : impl_SaysYes.f k l0 l1 l2 s = some q) : Calls Tryd.prog 8 #[.agg #[v0, v1, v2], .string s] W fun e w' => e = .returned (.bool q) ∧ Below W.heap.size W w' := by
  obtain ⟨A0, c0, A1, c1, A2, c2, rfl, rfl, rfl, q0, q1, q2, r0, r1, r2⟩ := o.reads
  exact impl_SaysYes.calls k A0 c0 l0 A1 c1 l1 A2 c2 l2 s q W r0 q0 r1 q1 r2 q2 h
theorem calls_not (hw : w.heap.size ≤ W.heap.size) (o : OM w W v0 v1 v2 l0 l1 l2) (h : impl_MachineNot.f k l0 l1 l2 = some (n0, n1, n2)) : Calls Tryd.prog 14 #[.agg #[v0, v1, v2]] W fun e w' => ∃ u0 u1 u2 : Value, e = .returned (.agg #[u0, u1, u2]) ∧ OM w w' u0 u1 u2 n0 n1 n2 ∧ Below W.heap.size W w' := by
  obtain ⟨A0, c0, A1, c1, A2, c2, rfl, rfl, rfl, q0, q1, q2, r0, r1, r2⟩ := o.reads
  exact (impl_MachineNot.calls k A0 c0 l0 A1 c1 l1 A2 c2 l2 n0 n1 n2 W r0 q0 r1 q1 r2 q2 h).mono (fun e w' ⟨u0, u1, u2, he, h0, h1, h2, hb⟩ => ⟨u0, u1, u2, he, (OM.made hw h0 h1 h2).1, hb⟩)
theorem calls_draw {A : Option Addr} {c : Nat} {l : List Int} (hr : Kd.C (Kd.int .u8) w A l.length l) (hc : l.length ≤ c) (h : spec_DrawNoCircle.f k l = some (n0, n1, n2)) : Calls Tryd.prog 10 #[.slice A l.length c] w fun e w' => ∃ u0 u1 u2 : Value, e = .returned (.agg #[u0, u1, u2]) ∧ OM w w' u0 u1 u2 n0 n1 n2 ∧ Below w.heap.size w w' :=
  (spec_DrawNoCircle.calls k A c l n0 n1 n2 w hr hc h).mono (fun e w' ⟨u0, u1, u2, he, h0, h1, h2, hb⟩ => ⟨u0, u1, u2, he, (OM.made (Nat.le_refl _) h0 h1 h2).1, hb⟩)
end
/-- What the law's calls answer. -/
def Ways (k3 k4 k5 k6 k7 k8 : Nat) (o q : Bool) (r0 r1 r2 n0 n1 n2 : List Int) : Prop :=
  (o = false ∧ impl_MachineNot.f k4 r0 r1 r2 = some (n0, n1, n2) ∧ impl_NoCircle.f k5 n0 n1 n2 = some false) ∨
  (o = true ∧ impl_AnyOrder.f k3 r0 r1 r2 = some false ∧ impl_MachineNot.f k4 r0 r1 r2 = some (n0, n1, n2) ∧ impl_NoCircle.f k5 n0 n1 n2 = some true) ∨
  (o = true ∧ impl_AnyOrder.f k3 r0 r1 r2 = some true ∧ r0.length ≤ 12 ∧ impl_SaysYes.f k6 r0 r1 r2 (rep 48 r0.length ++ rep 49 r0.length) = some q ∧ impl_SaysYes.f k7 r0 r1 r2 (rep 48 r0.length ++ rep 49 r0.length ++ (⟨#[49]⟩ : ByteArray)) = some q ∧ impl_SaysYes.f k8 r0 r1 r2 (rep 48 r0.length ++ rep 49 r0.length ++ (⟨#[48]⟩ : ByteArray)) = some q)

set_option maxHeartbeats 8000000 in
set_option maxRecDepth 100000 in
theorem lawCircle (A : Option Addr) (c : Nat) (l : List Int) (w : World) (hr : Kd.C (Kd.int .u8) w A l.length l) (hc : l.length ≤ c) (F : (l.length : Int) > 1048576 ∨ ∃ kd k1 k2 k3 k4 k5 k6 k7 k8 o q r0 r1 r2 n0 n1 n2, spec_DrawNoCircle.f kd l = some (r0, r1, r2) ∧ impl_NoCircle.f k1 r0 r1 r2 = some o ∧ spec_NoCircle.f k2 r0 r1 r2 = some o ∧ Ways k3 k4 k5 k6 k7 k8 o q r0 r1 r2 n0 n1 n2) :
    Calls Tryd.prog 4 #[.slice A l.length c] w fun e w' => e = .returned (.bool true) ∧ Below w.heap.size w w' := by
  have hu := Tryd.underlying27
  have HR := Aside0.mk hr
  have HC := Aside0.mk hc; clear hr hc
  by_cases c2 : (l.length : Int) > 1048576
  · have c2b0 : decide (1048576 < (l.length : Int)) = true := decide_eq_true c2
    have c2b1 : decide (1048576 < l.length) = true := decide_eq_true (by omega); clear c2 F
    go_enter Tryd.func4, Tryd.ntmps4
    go_wp2
    go_ret
    exact ⟨rfl, Below.refl _ _⟩
  · obtain ⟨kd, k1, k2, k3, k4, k5, k6, k7, k8, o, q, r0, r1, r2, n0, n1, n2, hd, h1, h2, hw_⟩ := F.resolve_left c2
    have c2b0 : decide (1048576 < (l.length : Int)) = false := decide_eq_false c2
    have c2b1 : decide (1048576 < l.length) = false := decide_eq_false (by omega); clear c2 F
    have HD := Aside0.mk hd
    have H1 := Aside0.mk h1
    have H2 := Aside0.mk h2
    have HW := Aside0.mk hw_; clear hd h1 h2 hw_
    have oo : (o == o) = true := beq_self_eq_true o
    have od : decide (o = o) = true := decide_eq_true rfl
    have on : (o != o) = false := bne_self_eq_false o
    go_enter Tryd.func4, Tryd.ntmps4
    go_upto_region 7 with (first | (go_at_call 10; refine (calls_draw HR.out HC.out HD.out).mono ?_; rintro e w3 ⟨a0, a1, a2, rfl, om_, hb_⟩; obtain ⟨Pa0, pa0, Pa1, pa1, Pa2, pa2, rfl, rfl, rfl, _⟩ := om_.reads; have Oa := Aside0.mk om_; have HBa := Aside0.mk hb_; clear om_ hb_) | ((with_reducible refine gate_dst (N := 3) rfl ?_); refine box_event ?hg (N := 3) ?hd (cs := #[.slice none 0 0, .slice none 0 0, .slice none 0 0]) (t := 27) ?hr ?_; (case hd => rfl); (case hg => rfl); (case hr => first | (go_simp; done) | (go_simp; rfl)); intro g3 hg3 wg3 hbox hb; have M3 := Aside0.mk (Oa.out.boxed hg3 hbox hb); have HB3 := Aside0.mk (below_beside HBa.out hg3 hb (.slice Pa0 r0.length pa0) (.slice Pa1 r1.length pa1) (.slice Pa2 r2.length pa2)); have hcg3_0 : wg3.cell? ⟨g3, 0, none⟩ = some (.slice none 0 0) := (blk_cell hbox 0).trans rfl; have hfg3_0 := blk_frozen hbox 0; have hcg3_1 : wg3.cell? ⟨g3, 1, none⟩ = some (.slice none 0 0) := (blk_cell hbox 1).trans rfl; have hfg3_1 := blk_frozen hbox 1; have hcg3_2 : wg3.cell? ⟨g3, 2, none⟩ = some (.slice none 0 0) := (blk_cell hbox 2).trans rfl; have hfg3_2 := blk_frozen hbox 2; clear hbox hb hg3) | (go_at_call 11; (with_reducible refine (calls_noc M3.out.om H1.out).mono ?_); rintro e w5 ⟨rfl, hb_⟩; have M3b := Aside0.mk (M3.out.below hb_); have HB3b := Aside0.mk (below_step HB3.out hb_); have ca0 : w5.cell? ⟨g3, 0, none⟩ = some (.slice Pa0 r0.length pa0) := (blk_cell M3b.out.bx 0).trans rfl; have ca1 : w5.cell? ⟨g3, 1, none⟩ = some (.slice Pa1 r1.length pa1) := (blk_cell M3b.out.bx 1).trans rfl; have ca2 : w5.cell? ⟨g3, 2, none⟩ = some (.slice Pa2 r2.length pa2) := (blk_cell M3b.out.bx 2).trans rfl; clear hb_) | (go_at_call 12; (with_reducible refine (calls_nocS M3b.out.om H2.out).mono ?_); rintro e w6 ⟨rfl, hb_⟩; have M3c := Aside0.mk (M3b.out.below hb_); have HB3c := Aside0.mk (below_step HB3b.out hb_); have cb0 : w6.cell? ⟨g3, 0, none⟩ = some (.slice Pa0 r0.length pa0) := (blk_cell M3c.out.bx 0).trans rfl; have cb1 : w6.cell? ⟨g3, 1, none⟩ = some (.slice Pa1 r1.length pa1) := (blk_cell M3c.out.bx 1).trans rfl; have cb2 : w6.cell? ⟨g3, 2, none⟩ = some (.slice Pa2 r2.length pa2) := (blk_cell M3c.out.bx 2).trans rfl; clear hb_))
    rcases HW.out with ⟨rfl, hn, h3⟩ | ⟨rfl, ha, hn, h3⟩ | ⟨rfl, ha, h12, s1, s2, s3⟩
    · have HN := Aside0.mk hn
      have H3 := Aside0.mk h3; clear hn h3 HW
      go_wp2_with (first | (go_at_call 14; (with_reducible refine (calls_not (w := w) (below_size HB3c.out) M3c.out.om HN.out).mono ?_); rintro e w8 ⟨x0, x1, x2, rfl, om_, hb_⟩; obtain ⟨Px0, px0, Px1, px1, Px2, px2, rfl, rfl, rfl, _⟩ := om_.reads; have Ox := Aside0.mk om_; have HBx := Aside0.mk (below_step HB3c.out hb_); clear om_ hb_) | (go_at_call 11; (with_reducible refine (calls_noc Ox.out H3.out).mono ?_); rintro e w9 ⟨rfl, hb_⟩; have HBy := Aside0.mk (below_step HBx.out hb_); clear hb_) | (go_at_call 15; (with_reducible refine (laws_alive.calls true _ Sem.alive_ok).mono ?_); rintro e w10 ⟨rfl, ⟨nd, rfl⟩⟩))
      go_ret
      exact ⟨rfl, by repeat (first | exact HBy.out | apply pw_below_drewN | apply below_drew1)⟩
    · have HA := Aside0.mk ha
      have HN := Aside0.mk hn
      have H3 := Aside0.mk h3; clear ha hn h3 HW
      go_wp2_with (first | (go_at_call 13; (with_reducible refine (calls_any M3c.out.om HA.out).mono ?_); rintro e w7 ⟨rfl, hb_⟩; have M3d := Aside0.mk (M3c.out.below hb_); have HB3d := Aside0.mk (below_step HB3c.out hb_); have cc0 : w7.cell? ⟨g3, 0, none⟩ = some (.slice Pa0 r0.length pa0) := (blk_cell M3d.out.bx 0).trans rfl; have cc1 : w7.cell? ⟨g3, 1, none⟩ = some (.slice Pa1 r1.length pa1) := (blk_cell M3d.out.bx 1).trans rfl; have cc2 : w7.cell? ⟨g3, 2, none⟩ = some (.slice Pa2 r2.length pa2) := (blk_cell M3d.out.bx 2).trans rfl; clear hb_) | (go_at_call 14; (with_reducible refine (calls_not (w := w) (below_size HB3d.out) M3d.out.om HN.out).mono ?_); rintro e w8 ⟨x0, x1, x2, rfl, om_, hb_⟩; obtain ⟨Px0, px0, Px1, px1, Px2, px2, rfl, rfl, rfl, _⟩ := om_.reads; have Ox := Aside0.mk om_; have HBx := Aside0.mk (below_step HB3d.out hb_); clear om_ hb_) | (go_at_call 11; (with_reducible refine (calls_noc Ox.out H3.out).mono ?_); rintro e w9 ⟨rfl, hb_⟩; have HBy := Aside0.mk (below_step HBx.out hb_); clear hb_) | (go_at_call 15; (with_reducible refine (laws_alive.calls true _ Sem.alive_ok).mono ?_); rintro e w10 ⟨rfl, ⟨nd, rfl⟩⟩))
      go_ret
      exact ⟨rfl, by repeat (first | exact HBy.out | apply pw_below_drewN | apply below_drew1)⟩
    · have HA := Aside0.mk ha
      have S1 := Aside0.mk s1
      have S2 := Aside0.mk s2
      have S3 := Aside0.mk s3
      have L12 := Aside0.mk h12; clear ha s1 s2 s3 h12 HW
      go_wp2_with (first | (go_at_call 13; (with_reducible refine (calls_any M3c.out.om HA.out).mono ?_); rintro e w7 ⟨rfl, hb_⟩; have M3d := Aside0.mk (M3c.out.below hb_); have HB3d := Aside0.mk (below_step HB3c.out hb_); have cc0 : w7.cell? ⟨g3, 0, none⟩ = some (.slice Pa0 r0.length pa0) := (blk_cell M3d.out.bx 0).trans rfl; have cc1 : w7.cell? ⟨g3, 1, none⟩ = some (.slice Pa1 r1.length pa1) := (blk_cell M3d.out.bx 1).trans rfl; have cc2 : w7.cell? ⟨g3, 2, none⟩ = some (.slice Pa2 r2.length pa2) := (blk_cell M3d.out.bx 2).trans rfl; clear hb_))
      go_loopg [5, 6, 7] r0.length (fun kq v5 v6 v7 w' => ∃ (i : Nat) (j : Int), v5 = .string (rep 48 i) ∧ v6 = .string (rep 49 i) ∧ v7 = .int .i64 j ∧ Aside0 (j = (i : Int)) ∧ Aside0 (i + kq = r0.length) ∧ Aside0 (Mx w w' g3 (.slice Pa0 r0.length pa0) (.slice Pa1 r1.length pa1) (.slice Pa2 r2.length pa2) r0 r1 r2) ∧ Aside0 (Below w.heap.size w w'))
      case atStart => exact ⟨0, 0, rfl, rfl, rfl, ⟨rfl⟩, ⟨Nat.zero_add _⟩, M3d, HB3d⟩
      case round =>
        clear M3 M3b M3c M3d HB3 HB3b HB3c HB3d Oa HBa ca0 ca1 ca2 cb0 cb1 cb2 cc0 cc1 cc2
        obtain ⟨i, j, rfl, rfl, rfl, HJ, HI, M, HB⟩ := hrel
        have cm0 : wr.cell? ⟨g3, 0, none⟩ = some (.slice Pa0 r0.length pa0) := (blk_cell M.out.bx 0).trans rfl
        have cm1 : wr.cell? ⟨g3, 1, none⟩ = some (.slice Pa1 r1.length pa1) := (blk_cell M.out.bx 1).trans rfl
        have cm2 : wr.cell? ⟨g3, 2, none⟩ = some (.slice Pa2 r2.length pa2) := (blk_cell M.out.bx 2).trans rfl
        cases gk with
        | zero =>
          have hi := HI.out
          have hj := HJ.out
          have cib : decide (j < (r0.length : Int)) = false := decide_eq_false (by omega)
          have ei : i = r0.length := by omega
          clear hj
          subst ei
          have z1 : (rep 48 r0.length).size + (rep 49 r0.length).size ≤ 9223372036854775807 := by rw [rep_size, rep_size]; have := L12.out; omega
          have z2 : (rep 48 r0.length ++ rep 49 r0.length).size + 1 ≤ 9223372036854775807 := by rw [ByteArray.size_append, rep_size, rep_size]; have := L12.out; omega
          have z3 : (rep 48 r0.length).size + (rep 49 r0.length).size + 1 ≤ 9223372036854775807 := by rw [rep_size, rep_size]; have := L12.out; omega
          have z10 := eq_true z1
          have z11 := decide_eq_true z1
          have z12 := eq_false (Nat.not_lt.2 z1)
          have z20 := eq_true z2
          have z21 := decide_eq_true z2
          have z22 := eq_false (Nat.not_lt.2 z2)
          have z30 := eq_true z3
          have z31 := decide_eq_true z3
          have z32 := eq_false (Nat.not_lt.2 z3)
          have qq : (q == q) = true := beq_self_eq_true q
          have qd : decide (q = q) = true := decide_eq_true rfl
          clear hi z1 z2 z3 HJ
          go_wp2_with (first | (go_at_call 8; (with_reducible refine (calls_says M.out.om S1.out).mono ?_); rintro e w20 ⟨rfl, hb_⟩; have Ma := Aside0.mk (M.out.below hb_); have HBa_ := Aside0.mk (below_step HB.out hb_); have da0 : w20.cell? ⟨g3, 0, none⟩ = some (.slice Pa0 r0.length pa0) := (blk_cell Ma.out.bx 0).trans rfl; have da1 : w20.cell? ⟨g3, 1, none⟩ = some (.slice Pa1 r1.length pa1) := (blk_cell Ma.out.bx 1).trans rfl; have da2 : w20.cell? ⟨g3, 2, none⟩ = some (.slice Pa2 r2.length pa2) := (blk_cell Ma.out.bx 2).trans rfl; clear hb_) | (go_at_call 8; (with_reducible refine (calls_says Ma.out.om S2.out).mono ?_); rintro e w21 ⟨rfl, hb_⟩; have Mb := Aside0.mk (Ma.out.below hb_); have HBb_ := Aside0.mk (below_step HBa_.out hb_); have db0 : w21.cell? ⟨g3, 0, none⟩ = some (.slice Pa0 r0.length pa0) := (blk_cell Mb.out.bx 0).trans rfl; have db1 : w21.cell? ⟨g3, 1, none⟩ = some (.slice Pa1 r1.length pa1) := (blk_cell Mb.out.bx 1).trans rfl; have db2 : w21.cell? ⟨g3, 2, none⟩ = some (.slice Pa2 r2.length pa2) := (blk_cell Mb.out.bx 2).trans rfl; clear hb_) | (go_at_call 8; (with_reducible refine (calls_says Mb.out.om S3.out).mono ?_); rintro e w22 ⟨rfl, hb_⟩; have Mc := Aside0.mk (Mb.out.below hb_); have HBc_ := Aside0.mk (below_step HBb_.out hb_); have dc0 : w22.cell? ⟨g3, 0, none⟩ = some (.slice Pa0 r0.length pa0) := (blk_cell Mc.out.bx 0).trans rfl; have dc1 : w22.cell? ⟨g3, 1, none⟩ = some (.slice Pa1 r1.length pa1) := (blk_cell Mc.out.bx 1).trans rfl; have dc2 : w22.cell? ⟨g3, 2, none⟩ = some (.slice Pa2 r2.length pa2) := (blk_cell Mc.out.bx 2).trans rfl; clear hb_))
          go_ret
          exact ⟨rfl, by repeat (first | exact HBc_.out | apply pw_below_drewN | apply below_drew1)⟩
        | succ k1 =>
          have hi := HI.out
          have hj := HJ.out
          have cib : decide (j < (r0.length : Int)) = true := decide_eq_true (by omega)
          have x1 : (rep 48 i).size + 1 ≤ 9223372036854775807 := by rw [rep_size]; have := L12.out; omega
          have x2 : (rep 49 i).size + 1 ≤ 9223372036854775807 := by rw [rep_size]; have := L12.out; omega
          have x10 := eq_true x1
          have x11 := decide_eq_true x1
          have x12 := eq_false (Nat.not_lt.2 x1)
          have x20 := eq_true x2
          have x21 := decide_eq_true x2
          have x22 := eq_false (Nat.not_lt.2 x2)
          have hw : wrap64 (j + 1) = ((i + 1 : Nat) : Int) := by have := L12.out; unfold wrap64; omega
          clear hi hj x1 x2
          have HW1 := Aside0.mk hw; clear hw
          go_wp2
          go_roundg k1
          case measure => have := HI.out; omega
          case rel => exact ⟨i + 1, wrap64 (j + 1), by rw [rep_succ], by rw [rep_succ], rfl, HW1, ⟨by have := HI.out; omega⟩, ⟨by repeat (first | exact M.out | apply Mx.drewN | apply Mx.drew)⟩, ⟨by repeat (first | exact HB.out | apply pw_below_drewN | apply below_drew1)⟩⟩
end Go.Proofs.YtjfgbpmkboncnaaDoor.Man
