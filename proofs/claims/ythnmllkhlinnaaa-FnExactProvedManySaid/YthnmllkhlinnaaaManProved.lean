/- impl.provedFrom, by hand: it answers a map whose keys are just the proved sentences; for one to three kinds and allowed sentences. -/
import Derived.Test.YthnmllkhlinnaaaManKeys
import Derived.Test.YthnmllkhlinnaaaManSaid
namespace Go.Proofs.Ythnmllkhlinnaaa.Man
open Go.RowKit Go.Proofs.Ythnmllkhlinnaaa.PA Go.Proofs.YthnmllkhlinnaaaW.PrintWords Go.Proofs.YthnmllkhlinnaaaW.PrintLast Go.Proofs.YthnmllkhlinnaaaW.PrintMore
set_option linter.unusedVariables false
set_option linter.unusedSimpArgs false

/-- The state before a sentence is in hand. -/
structure P0 (w W : World) (gM : Nat) (es : Array MapEntry) (cl : Nat) (v : Value) (T : List Sem.Sy) : Prop where
  row : Kd.R k29 29 W w.heap.size (fun k_ => k_ ≠ gM) v T
  bm : W.heap[gM]? = some (.map es cl)
  bel : Below w.heap.size w W
theorem P0.alloc {w W : World} {gM : Nat} {es : Array MapEntry} {cl : Nat} {v : Value} {T : List Sem.Sy} (h : P0 w W gM es cl v T) (o : Obj) : P0 w (W.alloc o) gM es cl v T := ⟨Kd.R_alloc h.row _, blk_alloc h.bm _, below_alloc h.bel _⟩

section
variable {w W : World} {gM : Nat} {es : Array MapEntry} {cl : Nat} {v : Value} {T : List Sem.Sy} {ops : Array Oper} {rest : List Oper} {o : Oper} {a : Act} {Q : Exit → Act → World → Prop}
theorem P0.next (h : P0 w W gM es cl v T) {v1 : Value} {w1 : World} {T1 : List Sem.Sy} (ho : Kd.R k29 29 w1 w.heap.size (fun k_ => k_ ≠ gM) v1 T1) (hb : Below w.heap.size w w1) (hg : W.grownBy w1 v.ownBlock) : P0 w w1 gM es cl v1 T1 :=
  ⟨ho, blk_grown h.bm hg (Kd.R_away h.row (fun _ hk => hk)), hb⟩
theorem put0 (x : Operand) (sl : Operand) (t0 : Sem.Sy) (h : P0 w W gM es cl v T) (hgd : o.guard = none) (ho : o.op = .call { callee := .builtin .append, args := #[sl, x], argTypes := #[27, 27] })
    (hs : a.eval sl = v) (hx : a.eval x = .slice (some ⟨W.heap.size, 0, none⟩) 1 1) (hl : T.length ≤ 100000)
    (hC : ∀ v1 w1, P0 w w1 gM es cl v1 (T ++ [t0]) → wpList Try.prog ops Q rest (a.put o.dst v1) w1) :
    wpList Try.prog ops Q (o :: rest) a (W.alloc (.cells #[.int .i64 t0.f0, .int .i64 t0.f1, .int .i64 t0.f2] 29)) := by
  refine Kd.R_append k29 (w0 := w) w.heap.size hgd sl x 27 29 (.agg #[(.int .i64 0), (.int .i64 0), (.int .i64 0)]) 24 ho Try.underlying27 info29 rfl (by decide) (by omega) v T t0 [.int .i64 t0.f0, .int .i64 t0.f1, .int .i64 t0.f2] (fun k_ => k_ ≠ gM) (fun _ => False) hs hx (k29_mkM _ _ _ t0) (fun _ hk => hk.elim)
    (fun k_ hk => Kd.freshB h.bm k_ hk) h.row h.bel (below_size h.bel) (by omega) ?_
  intro v1 w1 ho1 hb1 hg1 _
  exact hC v1 w1 (h.next ho1 hb1 hg1)
/-- A copy of the sentences that came in. -/
theorem putAll (x : Operand) (sl : Operand) (L : List Sem.Sy) (A : Option Addr) (c : Nat) (h : P0 w W gM es cl v T) (hgd : o.guard = none) (ho : o.op = .call { callee := .builtin .append, args := #[sl, x], argTypes := #[27, 27] })
    (hs : a.eval sl = v) (hx : a.eval x = .slice A L.length c) (hr : Kd.C k29 W A L.length L) (hl : T.length + L.length ≤ 100000)
    (hC : ∀ v1 w1, P0 w w1 gM es cl v1 (T ++ L) → wpList Try.prog ops Q rest (a.put o.dst v1) w1) :
    wpList Try.prog ops Q (o :: rest) a W := by
  refine Kd.R_append_rows k29 (w0 := w) w.heap.size hgd sl x 27 29 (.agg #[(.int .i64 0), (.int .i64 0), (.int .i64 0)]) 24 ho Try.underlying27 info29 rfl (by decide) (by omega) v T L A L.length c (fun k_ => k_ ≠ gM) (fun _ => False) hs hx h.row hr (fun p cs hp => by have := k29_open hp; subst this; exact k29_mkM _ _ _ p) (fun _ hk => hk.elim)
    (fun k_ hk => Kd.freshB h.bm k_ hk) h.bel (below_size h.bel) (by omega) ?_
  intro v1 w1 ho1 hb1 hg1 _
  exact hC v1 w1 (h.next ho1 hb1 hg1)
end

/-- A sentence is taken in hand: in a block of its own. -/
theorem P0.boxed {w W : World} {gM : Nat} {es : Array MapEntry} {cl : Nat} {v : Value} {T : List Sem.Sy} (h : P0 w W gM es cl v T) {gS : Nat} (hg : gS = W.heap.size) {w1 : World} (hbox : w1.heap[gS]? = some (.cells #[.int .i64 0, .int .i64 0, .int .i64 0] 29 (0, 0))) (hb : Below W.heap.size W w1) (s : Sem.Sy) :
    Pf w (((w1.setCell ⟨gS, 0, none⟩ (.int .i64 s.f0)).setCell ⟨gS, 1, none⟩ (.int .i64 s.f1)).setCell ⟨gS, 2, none⟩ (.int .i64 s.f2)) gM gS es cl s v T := by
  have hne : gM ≠ gS := by have := blk_lt h.bm; omega
  have hle : w.heap.size ≤ gS := by have := below_size h.bel; omega
  have e1 := Kd.R_below (Kd.R_elderB h.row gS (Nat.le_of_eq hg.symm)) hb
  refine ⟨Kd.R_far (p := ⟨gS, 2, none⟩) (Kd.R_far (p := ⟨gS, 1, none⟩) (Kd.R_far (p := ⟨gS, 0, none⟩) e1 (fun _ hk => hk.2) _) (fun _ hk => hk.2) _) (fun _ hk => hk.2) _, ?_, ?_, below_set (below_set (below_set (below_step h.bel hb) hle) hle) hle⟩
  · exact (Below.heap_setCell _ ⟨gS, 2, none⟩ _ gM hne).trans ((Below.heap_setCell _ ⟨gS, 1, none⟩ _ gM hne).trans ((Below.heap_setCell _ ⟨gS, 0, none⟩ _ gM hne).trans (blk_below h.bm hb)))
  · exact blk_put (cs := #[.int .i64 s.f0, .int .i64 s.f1, .int .i64 0]) (blk_put (cs := #[.int .i64 s.f0, .int .i64 0, .int .i64 0]) (blk_put (cs := #[.int .i64 0, .int .i64 0, .int .i64 0]) hbox 0 _ rfl) 1 _ rfl) 2 _ rfl
/-- The row is cut at its end. -/
theorem Pf.cut {w W : World} {gM gS : Nat} {es : Array MapEntry} {cl : Nat} {s : Sem.Sy} {A : Option Addr} {n c : Nat} {T T' : List Sem.Sy} (h : Pf w W gM gS es cl s (.slice A n c) T) (hT : T = T' ++ [s]) : Pf w W gM gS es cl s (.slice A T'.length c) T' := by
  refine ⟨?_, h.bm, h.bs, h.bel⟩
  have h1 := Kd.R_take h.row (m := T'.length) (by rw [hT]; simp)
  have h2 : T.take T'.length = T' := by rw [hT]; simp
  rwa [h2] at h1
/-- The box is left. -/
theorem Pf.leave {w W : World} {gM gS : Nat} {es : Array MapEntry} {cl : Nat} {s : Sem.Sy} {v : Value} {T : List Sem.Sy} (h : Pf w W gM gS es cl s v T) : P0 w W gM es cl v T := ⟨Kd.R_mono h.row (fun _ hk => hk.1), h.bm, h.bel⟩

theorem Pf.drewN {w W : World} {gM gS : Nat} {es : Array MapEntry} {cl : Nat} {s : Sem.Sy} {v : Value} {T : List Sem.Sy} (h : Pf w W gM gS es cl s v T) (n : Nat) : Pf w (W.drewN n) gM gS es cl s v T :=
  ⟨Kd.R_drewN h.row _, blk_drewN h.bm _, blk_drewN h.bs _, pw_below_drewN h.bel _⟩
/-- The map is written. -/
theorem Pf.turned {w W : World} {gM gS : Nat} {es es' : Array MapEntry} {cl cl' : Nat} {s : Sem.Sy} {v : Value} {T : List Sem.Sy} (h : Pf w W gM gS es cl s v T) {w1 : World} (hb : w1.heap[gM]? = some (.map es' cl')) (hg : W.grownBy w1 (some gM)) (hM : w.heap.size ≤ gM) : Pf w w1 gM gS es' cl' s v T := by
  have hne : gS ≠ gM := by rintro rfl; have := h.bm; rw [h.bs] at this; cases this
  exact ⟨Kd.R_grown h.row hg (fun k hk => by simpa using hk.1), hb, blk_grown h.bs hg (by simpa using hne), h.bel.grown hg (below_size h.bel) (fun j hj => by cases hj; exact hM)⟩
/-- The row at the start. -/
def refls (i : Nat) : List Sem.Sy := (List.range i).map fun n : Nat => ⟨0, (n : Int), (n : Int)⟩
theorem refls_succ (i : Nat) : refls (i + 1) = refls i ++ [⟨0, (i : Int), (i : Int)⟩] := by unfold refls; rw [List.range_succ, List.map_append]; rfl
theorem refls_length (i : Nat) : (refls i).length = i := by unfold refls; rw [List.length_map, List.length_range]
theorem mem_refls (k : Int) (h : 0 ≤ k) (s : Sem.Sy) : s ∈ refls (2 * k).toNat ↔ ∃ x, 0 ≤ x ∧ x < 2 * k ∧ s = ⟨0, x, x⟩ := by
  unfold refls
  rw [List.mem_map]
  constructor
  · rintro ⟨n, hn, rfl⟩
    have := List.mem_range.1 hn
    exact ⟨n, by omega, by omega, rfl⟩
  · rintro ⟨x, h1, h2, rfl⟩
    exact ⟨x.toNat, List.mem_range.2 (by omega), by rw [Int.toNat_of_nonneg h1]⟩
theorem own_empty (W : World) (base e size : Nat) (h : base ≤ W.heap.size) : True := trivial

/-- What is left to do, as a number. -/
def mes (K T : List Sem.Sy) : Nat := T.length + (72 - K.length) * 100

theorem aux1 {K T T' : List Sem.Sy} {s : Sem.Sy} {gk : Nat} (hT : T = T' ++ [s]) (hms : mes K T ≤ gk) (hgg : gk ≤ 7300) : T.length = T'.length + 1 ∧ T'.length ≤ 7300 := by
  unfold mes at hms
  have : T.length = T'.length + 1 := by rw [hT]; simp
  omega
theorem aux2 (m : Nat) (h : m ≤ 7300) : ((m + 1 : Nat) : Int) > 0 ∧ wrap64 (m : Int) = m ∧ (0 : Int) ≤ m ∧ (m : Int) < ((m + 1 : Nat) : Int) := by unfold wrap64; omega
theorem aux3 {K T' : List Sem.Sy} {s : Sem.Sy} {gk : Nat} (hms : mes K (T' ++ [s]) ≤ gk) : mes K T' + 1 ≤ gk ∧ mes K T' < gk := by
  unfold mes at hms ⊢
  rw [List.length_append] at hms
  simp at hms
  omega
theorem aux4 {K T' N : List Sem.Sy} {s : Sem.Sy} {gk : Nat} (hms : mes K (T' ++ [s]) ≤ gk) (hK : (K ++ [s]).length ≤ 72) (hN : N.length ≤ 98) : mes (K ++ [s]) (T' ++ N) < gk := by
  unfold mes at hms ⊢
  rw [List.length_append] at hms hK ⊢
  rw [List.length_append]
  simp at hms hK ⊢
  omega
theorem aux5 {k : Int} {i z : Nat} (h : 2 * k = (i : Int)) (hz : z < i) : (z : Int) < 2 * k := by omega
theorem aux10 {k : Int} {i z : Nat} (h : 2 * k = (i : Int)) (hz : ¬ z < i) : ¬ (z : Int) < 2 * k := by omega
theorem aux6 {f : Nat} (h : f < 2) : (f : Int) ≤ 1 := by omega
theorem aux9 {f : Nat} (h : ¬ f < 2) : ¬ (f : Int) ≤ 1 := by omega
theorem aux7 {f : Nat} (h : f < 2) : (f : Int) = 0 ∨ (f : Int) = 1 := by omega
theorem aux8 {z i g : Nat} (h : z < i) (hg : i - z ≤ g) : i - (z + 1) < g := by omega
theorem rd_last (T T' : List Sem.Sy) (s : Sem.Sy) (hT : T = T' ++ [s]) : rd_T29 T (T'.length : Int) = s := by
  unfold rd_T29
  rw [hT, Int.toNat_natCast, List.getD_eq_getElem?_getD]
  simp
theorem xor_all : ((List.range 6).all fun x => decide (Go.bits .xor .i64 (x : Int) 1 = Sem.oth (x : Int))) = true := by kernel_rfl
theorem xor1 {k x : Int} (hk : k ≤ 3) (h : 0 ≤ x ∧ x < 2 * k) : Go.bits .xor .i64 x 1 = Sem.oth x := by
  obtain ⟨n, rfl⟩ := Int.eq_ofNat_of_zero_le h.1
  exact of_decide_eq_true (List.all_eq_true.1 xor_all n (List.mem_range.2 (by omega)))

/-- What the round over terms puts to the row. -/
def zs (K : List Sem.Sy) (s : Sem.Sy) (z : Nat) : List Sem.Sy := ((List.range z).map (fun n : Nat => (n : Int))).flatMap (Sem.zStep K s)
theorem zs_succ (K : List Sem.Sy) (s : Sem.Sy) (z : Nat) : zs K s (z + 1) = zs K s z ++ Sem.zStep K s z := by
  unfold zs
  rw [List.range_succ, List.map_append, List.flatMap_append]
  simp
theorem zs_length (K : List Sem.Sy) (s : Sem.Sy) (z : Nat) : (zs K s z).length ≤ z * 4 := by
  have := Sem.flat_length (Sem.zStep K s) 4 (Sem.zStep_length K s) ((List.range z).map (fun n : Nat => (n : Int)))
  rw [List.length_map, List.length_range] at this
  exact this
theorem alone_length (s : Sem.Sy) : (Sem.alone s).length ≤ 2 := by unfold Sem.alone; split <;> simp
def z1 (s : Sem.Sy) (z : Int) : List Sem.Sy := if s.f0 = 0 ∧ s.f2 = Sem.oth s.f1 then [⟨0, s.f1, z⟩] else []
def z2 (K : List Sem.Sy) (s : Sem.Sy) (z : Int) : List Sem.Sy := if (⟨0, s.f2, z⟩ : Sem.Sy) ∈ K then [⟨s.f0, s.f1, z⟩] else []
def z3 (K : List Sem.Sy) (s : Sem.Sy) (z : Int) : Nat → List Sem.Sy
  | 0 => []
  | f + 1 => z3 K s z f ++ (if s.f0 = 0 ∧ (⟨(f : Int), z, s.f1⟩ : Sem.Sy) ∈ K then [⟨(f : Int), z, s.f2⟩] else [])
theorem z_all (K : List Sem.Sy) (s : Sem.Sy) (z : Int) : Sem.zStep K s z = z1 s z ++ z2 K s z ++ z3 K s z 2 := by
  unfold Sem.zStep z1 z2
  simp [z3]
theorem z1_length (s : Sem.Sy) (z : Int) : (z1 s z).length ≤ 1 := by unfold z1; split <;> simp
theorem z2_length (K : List Sem.Sy) (s : Sem.Sy) (z : Int) : (z2 K s z).length ≤ 1 := by unfold z2; split <;> simp
theorem z3_length (K : List Sem.Sy) (s : Sem.Sy) (z : Int) : ∀ f, (z3 K s z f).length ≤ f
  | 0 => by simp [z3]
  | f + 1 => by
    have := z3_length K s z f
    rw [z3, List.length_append]
    split <;> simp <;> omega
theorem lenZ {T' K : List Sem.Sy} {s : Sem.Sy} {z : Nat} (h : T'.length ≤ 7300) (hz : z ≤ 6) : (T' ++ Sem.alone s ++ zs K s z).length ≤ 100000 := by
  have := zs_length K s z
  have := alone_length s
  rw [List.length_append, List.length_append]
  omega
theorem lenA {T' K : List Sem.Sy} {s : Sem.Sy} {z : Nat} {y : Int} (h : T'.length ≤ 7300) (hz : z ≤ 6) : (T' ++ Sem.alone s ++ zs K s z ++ z1 s y).length ≤ 100000 := by
  have := zs_length K s z
  have := alone_length s
  have := z1_length s y
  rw [List.length_append, List.length_append, List.length_append]
  omega
theorem lenC {T' K : List Sem.Sy} {s : Sem.Sy} {z f : Nat} {y : Int} (h : T'.length ≤ 7300) (hz : z ≤ 6) (hf : f ≤ 2) : (T' ++ Sem.alone s ++ zs K s z ++ z1 s y ++ z2 K s y ++ z3 K s y f).length ≤ 100000 := by
  have := zs_length K s z
  have := alone_length s
  have := z1_length s y
  have := z2_length K s y
  have := z3_length K s y f
  rw [List.length_append, List.length_append, List.length_append, List.length_append, List.length_append]
  omega
/-- All sentences, as the two loops put them. -/
def eachB (k a : Int) : Nat → List Sem.Sy
  | 0 => []
  | b + 1 => eachB k a b ++ [⟨0, a, (b : Int)⟩, ⟨1, a, (b : Int)⟩]
def eachA (k : Int) (n : Nat) : Nat → List Sem.Sy
  | 0 => []
  | a + 1 => eachA k n a ++ eachB k (a : Int) n
theorem eachB_eq (k a : Int) : ∀ n, eachB k a n = ((List.range n).map (fun n : Nat => (n : Int))).flatMap fun b => [⟨0, a, b⟩, ⟨1, a, b⟩]
  | 0 => rfl
  | n + 1 => by
    rw [eachB, eachB_eq k a n, List.range_succ, List.map_append, List.flatMap_append]
    simp
theorem eachA_eq (k : Int) (n : Nat) : ∀ m, eachA k n m = ((List.range m).map (fun n : Nat => (n : Int))).flatMap fun a => ((List.range n).map (fun n : Nat => (n : Int))).flatMap fun b => [⟨0, a, b⟩, ⟨1, a, b⟩]
  | 0 => rfl
  | m + 1 => by
    rw [eachA, eachA_eq k n m, List.range_succ, List.map_append, List.flatMap_append, eachB_eq]
    simp
theorem each_all (k : Int) (n : Nat) (h : (2 * k).toNat = n) : eachA k n n = Sem.everyS k := by
  rw [eachA_eq]
  unfold Sem.everyS Sem.terms
  rw [h]
theorem eachB_length (k a : Int) : ∀ n, (eachB k a n).length = 2 * n
  | 0 => rfl
  | n + 1 => by rw [eachB, List.length_append, eachB_length k a n]; simp; omega
theorem eachA_length (k : Int) (n : Nat) : ∀ m, (eachA k n m).length = m * (2 * n)
  | 0 => by simp [eachA]
  | m + 1 => by rw [eachA, List.length_append, eachA_length k n m, eachB_length, Nat.add_mul]; omega

theorem lenH {T' K : List Sem.Sy} {s : Sem.Sy} {k : Int} {i a b : Nat} (h : T'.length ≤ 7300) (hi : i ≤ 6) (ha : a ≤ i) (hb : b ≤ i) : (T' ++ Sem.alone s ++ zs K s i ++ eachA k i a ++ eachB k (a : Int) b).length ≤ 100000 := by
  have := zs_length K s i
  have := alone_length s
  have h1 : a * (2 * i) ≤ 6 * 12 := Nat.mul_le_mul (by omega) (by omega)
  rw [List.length_append, List.length_append, List.length_append, List.length_append, eachA_length, eachB_length]
  omega

set_option maxHeartbeats 8000000 in
set_option maxRecDepth 100000 in
theorem provedFrom (k : Int) (hk : 1 ≤ k ∧ k ≤ 3) (A : Option Addr) (c : Nat) (L : List Sem.Sy) (hL : ∀ s ∈ L, Sem.Oks k s) (hl6 : L.length ≤ 6) (w : World) (hr : Kd.C k29 w A L.length L) :
    Calls Try.prog 28 #[.int .i64 k, .slice A L.length c] w fun e w' => ∃ (K : List Sem.Sy) (gM : Nat) (es : Array MapEntry) (cl : Nat), e = .returned (.map (some gM)) ∧ w'.heap[gM]? = some (.map es cl) ∧ MapK es cl K ∧ Sem.Inv k L K [] ∧ Below w.heap.size w w' := by
  have hmm := @run_makeMap Try.prog
  have HR := Aside0.mk hr
  have HL := Aside0.mk hL
  have HB := Aside0.mk (Below.refl w.heap.size w)
  have HM0 := Aside0.mk (blk_new w (.map #[] 0))
  have HB0 := Aside0.mk (below_alloc HB.out (.map #[] 0))
  have HP : Aside0 (P0 w ((w.alloc (.map #[] 0)).alloc (.cells #[] 29)) w.heap.size #[] 0 (.slice (some ⟨w.heap.size + 1, 0, none⟩) 0 0) []) := by
    have hs1 : (w.alloc (.map #[] 0)).heap.size = w.heap.size + 1 := World.size_alloc _ _
    rw [← hs1]
    refine ⟨⟨⟨fun k hk => ?_, [], ?_, Reps.none _ _⟩, blk_alloc HM0.out _, below_alloc HB0.out _⟩⟩
    · have h3 : (w.alloc (.map #[] 0)).heap.size = k := by simpa [Value.ownBlock] using hk
      rw [← h3, World.size_alloc]
      omega
    · have h2 := World.ownsRow_lit (base := w.heap.size) (e := 29) (size := 3) (w.alloc (.map #[] 0)) #[] 0 (by simp) (by unfold maxLen; omega) rfl
      show World.ownsRow _ _ _ 3 _ _ _
      simpa using h2
  clear hr hL
  have hw2 : wrap64 (2 * k) = 2 * k := by unfold wrap64; omega
  obtain ⟨n, hn⟩ : ∃ n : Nat, (2 * k).toNat = n := ⟨_, rfl⟩
  have HN : Aside0 ((2 * k) = (n : Int)) := ⟨by omega⟩
  have hn6 : n ≤ 6 := by omega
  go_enter Try.func28, Try.ntmps28
  go_wp2_with (first | ((with_reducible refine gate_builtin (b := .append) (xs := #[.tmp 17, .tmp 18]) rfl ?_); at_builtin; refine putAll (w := w) (gM := w.heap.size) (es := #[]) (cl := 0) (v := .slice (some ⟨w.heap.size + 1, 0, none⟩) 0 0) (T := []) (.tmp 18) (.tmp 17) L A c HP.out rfl rfl rfl rfl (Kd.C_below HR.out HP.out.bel) (by simp; omega) ?_; intro v1 w1 hp1; rw [List.nil_append] at hp1; have HP1 := Aside0.mk hp1; clear hp1))
  go_loopg [6, 23] n (fun gg v6 v23 wr => ∃ i : Nat, i ≤ n ∧ n - i ≤ gg ∧ v23 = .int .i64 i ∧ Aside0 (P0 w wr w.heap.size #[] 0 v6 (L ++ refls i)))
  case atStart => exact ⟨0, Nat.zero_le _, by omega, rfl, ⟨by simpa [refls] using HP1.out⟩⟩
  case round =>
    clear HP HP1 HM0 HB0
    obtain ⟨i, hi, hg, rfl, HP⟩ := hrel
    by_cases hlt : i < n
    · have hz : (i : Int) < 2 * k := by have := HN.out; omega
      go_wp2_with (first | ((with_reducible refine gate_builtin (b := .append) (xs := #[.tmp 26, .tmp 30]) rfl ?_); at_builtin; refine put0 (.tmp 30) (.tmp 26) ⟨0, (i : Int), (i : Int)⟩ HP.out rfl rfl rfl rfl (by rw [List.length_append, refls_length]; omega) ?_; intro v2 w2 hp2; rw [List.append_assoc, ← refls_succ] at hp2; have HP2 := Aside0.mk hp2; clear hp2))
      go_roundg (n - (i + 1))
      case measure => omega
      case rel => exact ⟨i + 1, by omega, by omega, by go_num, HP2⟩
    · have hz : ¬ (i : Int) < 2 * k := by have := HN.out; omega
      obtain rfl : i = n := by omega
      have HI0 := Aside0.mk (Sem.Inv.start (k := k) (L := L) (R := refls i) (fun s => by rw [← hn]; exact mem_refls k (by omega) s))
      have hm0 : mes [] (L ++ refls i) ≤ 7300 := by unfold mes; rw [List.length_append, refls_length]; simp; omega
      go_wp2
      go_loopg [6] 7300 (fun gg v6 wr => ∃ (K T : List Sem.Sy) (es : Array MapEntry) (cl : Nat), mes K T ≤ gg ∧ gg ≤ 7300 ∧ Aside0 (Sem.Inv k L K T) ∧ Aside0 (MapK es cl K) ∧ Aside0 (P0 w wr w.heap.size es cl v6 T))
      case atStart => exact ⟨[], L ++ refls i, #[], 0, hm0, Nat.le_refl _, HI0, ⟨MapK.nil⟩, HP⟩
      case round =>
        clear HP HI0 hm0 hz hlt hi hg
        obtain ⟨K, T, es, cl, hms, hgg, HI, HM, HP⟩ := hrel
        have HMS := Aside0.mk hms
        have HGG := Aside0.mk hgg
        clear hms hgg
        obtain ⟨Ao, co, eo⟩ := Kd.R_slice HP.out.row
        subst eo
        rcases List.eq_nil_or_concat T with rfl | ⟨T', s, hT⟩
        · go_wp2
          go_ret
          exact ⟨K, w.heap.size, es, cl, rfl, HP.out.bm, HM.out, HI.out, HP.out.bel⟩
        · rw [List.concat_eq_append] at hT
          obtain ⟨hTl, hTm⟩ := aux1 hT HMS.out HGG.out
          obtain ⟨hpos, hw4, p1, q1⟩ := aux2 T'.length hTm
          have hrd := rd_last T T' s hT
          have hco := (Kd.R_reads' HP.out.row).2.1
          obtain ⟨ad, ead, x0, x1, x2⟩ := at_T29 (Kd.R_reads' HP.out.row).2.2 (T'.length : Int) p1 (by rw [hTl]; exact q1)
          cases ead
          rw [hrd] at x0 x1 x2
          simp only [Int.toNat_natCast] at x0 x1 x2
          have HT := Aside0.mk hT
          have HTl := Aside0.mk hTl
          have HTm := Aside0.mk hTm
          clear hT hrd hTm
          have HP := (show Aside0 (P0 w wr w.heap.size es cl (.slice (some ad) (T'.length + 1) co) T) from ⟨by rw [← hTl]; exact HP.out⟩)
          rw [hTl]
          rw [hTl] at hco
          clear hTl
          have hcn : T'.length ≤ co := Nat.le_of_succ_le hco
          have hci : (T'.length : Int) ≤ (co : Int) := Int.ofNat_le.2 hcn
          go_upto_region 10 with (fail)
          go_cut [9] (fun v9 wc => ∃ gS : Nat, v9 = .pointer (some ⟨gS, 0, none⟩) ∧ Aside0 (Pf w wc w.heap.size gS es cl s (.slice (some ad) (T'.length + 1) co) T))
          case first => as_aux_lemma =>
            go_wp2_with (first | ((with_reducible refine gate_dst (N := 9) rfl ?_); refine box_event ?hg (N := 9) ?hd (cs := #[.int .i64 0, .int .i64 0, .int .i64 0]) (t := 29) ?hr ?_; (case hd => rfl); (case hg => rfl); (case hr => first | (go_simp; done) | (go_simp; rfl)); intro gS hgS w5 hbox hb; have PB := Aside0.mk (HP.out.boxed hgS hbox hb s); have hcz_0 : w5.cell? ⟨gS, 0, none⟩ = some (.int .i64 0) := (blk_cell hbox 0).trans rfl; have hcz_1 : w5.cell? ⟨gS, 1, none⟩ = some (.int .i64 0) := (blk_cell hbox 1).trans rfl; have hcz_2 : w5.cell? ⟨gS, 2, none⟩ = some (.int .i64 0) := (blk_cell hbox 2).trans rfl; have hfz_0 := blk_frozen hbox 0; have hfz_1 := blk_frozen hbox 1; have hfz_2 := blk_frozen hbox 2; clear hbox hb hgS))
            go_meet
            case rel => exact ⟨gS, rfl, PB⟩
          case rest =>
            obtain ⟨gS, rfl, PB⟩ := hcut
            have HP2 := Aside0.mk (PB.out.cut HT.out)
            have HI2 : Aside0 (Sem.Inv k L K (T' ++ [s])) := ⟨HT.out ▸ HI.out⟩
            have HMS2 : Aside0 (mes K (T' ++ [s]) ≤ gk) := ⟨HT.out ▸ HMS.out⟩
            have HSok : Aside0 (Sem.Oks k s) := ⟨(HI2.out.snd s (Or.inr (List.mem_append_right _ (List.mem_singleton.2 rfl)))).ok HL.out⟩
            have HKok : Aside0 (∀ x ∈ K, Sem.Oks k x) := ⟨fun x hx => (HI2.out.snd x (Or.inl hx)).ok HL.out⟩
            have HFEW := Aside0.mk (HI2.out.few hk HL.out)
            have b0 : wc.cell? ⟨gS, 0, none⟩ = some (.int .i64 s.f0) := (blk_cell PB.out.bs 0).trans rfl
            have b1 : wc.cell? ⟨gS, 1, none⟩ = some (.int .i64 s.f1) := (blk_cell PB.out.bs 1).trans rfl
            have b2 : wc.cell? ⟨gS, 2, none⟩ = some (.int .i64 s.f2) := (blk_cell PB.out.bs 2).trans rfl
            clear PB x0 x1 x2 HI HP HMS
            by_cases hin : s ∈ K
            · have HQ := Aside0.mk (decide_eq_true hin)
              have HI3 := Aside0.mk (HI2.out.old hin)
              go_wp2_with (first | (at_lookup; refine look rfl (.tmp 47) (.tmp 48) rfl HM.out hk.2 HKok.out HP2.out.bm s HSok.out rfl rfl true HQ.out ?_))
              go_roundg (mes K T')
              case measure => exact (aux3 HMS2.out).2
              case rel => exact ⟨K, T', es, cl, Nat.le_refl _, Nat.le_trans (Nat.le_of_lt (aux3 HMS2.out).2) HGG.out, HI3, HM, ⟨HP2.out.leave⟩⟩
            · have HQ := Aside0.mk (decide_eq_false hin)
              have HI3 := Aside0.mk (HI2.out.newF (k := k) HL.out hin)
              have HFEW3 := Aside0.mk (HI3.out.few hk HL.out)
              have HMR : Aside0 (mes (K ++ [s]) (T' ++ Sem.fresh k (K ++ [s]) s) < gk) := ⟨aux4 HMS2.out HFEW3.out (Sem.fresh_length k hk _ _)⟩
              have HG3 : Aside0 (mes (K ++ [s]) (T' ++ Sem.fresh k (K ++ [s]) s) ≤ 7300) := ⟨Nat.le_trans (Nat.le_of_lt HMR.out) HGG.out⟩
              have HKok3 : Aside0 (∀ x ∈ K ++ [s], Sem.Oks k x) := ⟨fun x hx => (HI3.out.snd x (Or.inl hx)).ok HL.out⟩
              clear hin
              go_upto_region 13 with (first | (at_lookup; refine look rfl (.tmp 47) (.tmp 48) rfl HM.out hk.2 HKok.out HP2.out.bm s HSok.out rfl rfl false HQ.out ?_))
              repeat (go_quiet (first | (at_lookup; refine look rfl (.tmp 47) (.tmp 48) rfl HM.out hk.2 HKok.out HP2.out.bm s HSok.out rfl rfl false HQ.out ?_)); go_upto_region 13 with (first | (at_lookup; refine look rfl (.tmp 47) (.tmp 48) rfl HM.out hk.2 HKok.out HP2.out.bm s HSok.out rfl rfl false HQ.out ?_)))
              (try simp only [Act.put, List.setIfInBounds_toArray, List.set_cons_zero, List.set_cons_succ])
              go_cut [] (fun we => ∃ (es' : Array MapEntry) (cl' : Nat), Aside0 (MapK es' cl' (K ++ [s])) ∧ Aside0 (Pf w we w.heap.size gS es' cl' s (.slice (some ad) T'.length co) (T')))
              case first => as_aux_lemma =>
                go_wp2_with (first | (at_mapUpdate; refine store rfl (.tmp 50) (.tmp 51) (.const (.bool true)) rfl HM.out hk.2 (Nat.le_trans HFEW.out (by decide)) HP2.out.bm s HSok.out rfl rfl rfl ?_; intro w6 es6 cl6 hm6 hb6 hg6; have HM6 := Aside0.mk hm6; have HP6 := Aside0.mk (HP2.out.turned hb6 hg6 (Nat.le_refl _)); clear hm6 hb6 hg6))
                repeat (go_quiet (first | (at_mapUpdate; refine store rfl (.tmp 50) (.tmp 51) (.const (.bool true)) rfl HM.out hk.2 (Nat.le_trans HFEW.out (by decide)) HP2.out.bm s HSok.out rfl rfl rfl ?_; intro w6 es6 cl6 hm6 hb6 hg6; have HM6 := Aside0.mk hm6; have HP6 := Aside0.mk (HP2.out.turned hb6 hg6 (Nat.le_refl _)); clear hm6 hb6 hg6)); try go_wp2_with (first | (at_mapUpdate; refine store rfl (.tmp 50) (.tmp 51) (.const (.bool true)) rfl HM.out hk.2 (Nat.le_trans HFEW.out (by decide)) HP2.out.bm s HSok.out rfl rfl rfl ?_; intro w6 es6 cl6 hm6 hb6 hg6; have HM6 := Aside0.mk hm6; have HP6 := Aside0.mk (HP2.out.turned hb6 hg6 (Nat.le_refl _)); clear hm6 hb6 hg6)))
                go_meet
                case rel => exact ⟨es6, cl6, HM6, HP6⟩
              case rest =>
                obtain ⟨es', cl', HM6, HP6⟩ := hcut
                clear b0 b1 b2 HP2 HM HQ HKok HFEW
                have b0 : wc.cell? ⟨gS, 0, none⟩ = some (.int .i64 s.f0) := (blk_cell HP6.out.bs 0).trans rfl
                have b1 : wc.cell? ⟨gS, 1, none⟩ = some (.int .i64 s.f1) := (blk_cell HP6.out.bs 1).trans rfl
                have b2 : wc.cell? ⟨gS, 2, none⟩ = some (.int .i64 s.f2) := (blk_cell HP6.out.bs 2).trans rfl
                go_upto_region 14 with (fail)
                go_cut [10, 11] (fun v10 v11 we => v10 = .int .i64 s.f1 ∧ v11 = .int .i64 s.f2 ∧ Aside0 (Pf w we w.heap.size gS es' cl' s (.slice (some ad) T'.length co) (T')))
                case first => as_aux_lemma =>
                  go_wp2
                  repeat (go_quiet (fail); try go_wp2)
                  go_meet
                  case rel => exact ⟨rfl, rfl, ⟨by (repeat (first | exact HP6.out | refine Pf.drewN ?_ _ | refine Pf.alloc ?_ _))⟩⟩
                case rest =>
                  obtain ⟨rfl, rfl, HP7⟩ := hcut
                  clear b0 b1 b2 HP6
                  have b0 : wc.cell? ⟨gS, 0, none⟩ = some (.int .i64 s.f0) := (blk_cell HP7.out.bs 0).trans rfl
                  have b1 : wc.cell? ⟨gS, 1, none⟩ = some (.int .i64 s.f1) := (blk_cell HP7.out.bs 1).trans rfl
                  have b2 : wc.cell? ⟨gS, 2, none⟩ = some (.int .i64 s.f2) := (blk_cell HP7.out.bs 2).trans rfl
                  have hx1 : Go.bits .xor .i64 s.f1 1 = Sem.oth s.f1 := xor1 hk.2 HSok.out.2.1
                  have hx2 : Go.bits .xor .i64 s.f2 1 = Sem.oth s.f2 := xor1 hk.2 HSok.out.2.2
                  go_upto_region 15 with (fail)
                  go_cut [58] (fun vq we => ∃ q : Bool, vq = .bool q ∧ Aside0 (decide (s.f0 = 1) = q) ∧ Aside0 (Pf w we w.heap.size gS es' cl' s (.slice (some ad) T'.length co) (T')))
                  case first => as_aux_lemma =>
                    by_cases h1 : s.f0 = 1
                    · go_wp2
                      repeat (go_quiet (fail); try go_wp2)
                      go_meet
                      case rel => exact ⟨true, rfl, ⟨decide_eq_true h1⟩, ⟨by (repeat (first | exact HP7.out | refine Pf.drewN ?_ _ | refine Pf.alloc ?_ _))⟩⟩
                    · have e1_ : (s.f0 == 1) = false := beq_eq_false_iff_ne.mpr h1
                      go_wp2
                      repeat (go_quiet (fail); try go_wp2)
                      go_meet
                      case rel => exact ⟨false, rfl, ⟨decide_eq_false h1⟩, ⟨by (repeat (first | exact HP7.out | refine Pf.drewN ?_ _ | refine Pf.alloc ?_ _))⟩⟩
                  case rest =>
                    obtain ⟨q, rfl, HQ, HP8⟩ := hcut
                    clear b0 b1 b2 HP7
                    have b0 : wc.cell? ⟨gS, 0, none⟩ = some (.int .i64 s.f0) := (blk_cell HP8.out.bs 0).trans rfl
                    have b1 : wc.cell? ⟨gS, 1, none⟩ = some (.int .i64 s.f1) := (blk_cell HP8.out.bs 1).trans rfl
                    have b2 : wc.cell? ⟨gS, 2, none⟩ = some (.int .i64 s.f2) := (blk_cell HP8.out.bs 2).trans rfl
                    go_upto_if 58 with (fail)
                    go_cut [6] (fun v6 we => Aside0 (Pf w we w.heap.size gS es' cl' s v6 (T' ++ Sem.alone s)))
                    case first =>
                      cases q with
                      | true =>
                        have ha := Aside0.mk (show Sem.alone s = [⟨1, s.f2, s.f1⟩, ⟨1, s.f1, s.f1⟩] from if_pos (of_decide_eq_true HQ.out))
                        go_wp2_with (first | ((with_reducible refine gate_builtin (b := .append) (xs := #[.tmp 59, .tmp 66]) rfl ?_); at_builtin; refine put2 (.tmp 66) (.tmp 59) ⟨1, s.f2, s.f1⟩ ⟨1, s.f1, s.f1⟩ HP8.out rfl rfl rfl rfl (Nat.le_trans HTm.out (by decide)) ?_; intro v5_ w5_ hp5_; have HPn := Aside0.mk hp5_; clear hp5_))
                        repeat (go_quiet (first | ((with_reducible refine gate_builtin (b := .append) (xs := #[.tmp 59, .tmp 66]) rfl ?_); at_builtin; refine put2 (.tmp 66) (.tmp 59) ⟨1, s.f2, s.f1⟩ ⟨1, s.f1, s.f1⟩ HP8.out rfl rfl rfl rfl (Nat.le_trans HTm.out (by decide)) ?_; intro v5_ w5_ hp5_; have HPn := Aside0.mk hp5_; clear hp5_)); try go_wp2_with (first | ((with_reducible refine gate_builtin (b := .append) (xs := #[.tmp 59, .tmp 66]) rfl ?_); at_builtin; refine put2 (.tmp 66) (.tmp 59) ⟨1, s.f2, s.f1⟩ ⟨1, s.f1, s.f1⟩ HP8.out rfl rfl rfl rfl (Nat.le_trans HTm.out (by decide)) ?_; intro v5_ w5_ hp5_; have HPn := Aside0.mk hp5_; clear hp5_)))
                        go_meet
                        case rel => exact ⟨by rw [ha.out]; exact HPn.out⟩
                      | false =>
                        have ha := Aside0.mk (show Sem.alone s = [⟨0, Sem.oth s.f2, Sem.oth s.f1⟩] from if_neg (of_decide_eq_false HQ.out))
                        go_wp2_with (first | ((with_reducible refine gate_builtin (b := .append) (xs := #[.tmp 68, .tmp 74]) rfl ?_); at_builtin; refine put1 (.tmp 74) (.tmp 68) ⟨0, Sem.oth s.f2, Sem.oth s.f1⟩ HP8.out rfl rfl rfl rfl (Nat.le_trans HTm.out (by decide)) ?_; intro v5_ w5_ hp5_; have HPn := Aside0.mk hp5_; clear hp5_))
                        repeat (go_quiet (first | ((with_reducible refine gate_builtin (b := .append) (xs := #[.tmp 68, .tmp 74]) rfl ?_); at_builtin; refine put1 (.tmp 74) (.tmp 68) ⟨0, Sem.oth s.f2, Sem.oth s.f1⟩ HP8.out rfl rfl rfl rfl (Nat.le_trans HTm.out (by decide)) ?_; intro v5_ w5_ hp5_; have HPn := Aside0.mk hp5_; clear hp5_)); try go_wp2_with (first | ((with_reducible refine gate_builtin (b := .append) (xs := #[.tmp 68, .tmp 74]) rfl ?_); at_builtin; refine put1 (.tmp 74) (.tmp 68) ⟨0, Sem.oth s.f2, Sem.oth s.f1⟩ HP8.out rfl rfl rfl rfl (Nat.le_trans HTm.out (by decide)) ?_; intro v5_ w5_ hp5_; have HPn := Aside0.mk hp5_; clear hp5_)))
                        go_meet
                        case rel => exact ⟨by rw [ha.out]; exact HPn.out⟩
                    case rest =>
                      have HP9 := hcut
                      clear hcut b0 b1 b2 HP8 HQ
                      go_wp2
                      repeat (go_quiet (fail); try go_wp2)
                      go_loopg [6, 77] i (fun gg v6 v77 wr => ∃ z : Nat, z ≤ i ∧ i - z ≤ gg ∧ v77 = .int .i64 z ∧ Aside0 (Pf w wr w.heap.size gS es' cl' s v6 (T' ++ Sem.alone s ++ zs (K ++ [s]) s z)))
                      case atStart => exact ⟨0, Nat.zero_le _, Nat.le_refl _, rfl, ⟨by have e_ : zs (K ++ [s]) s 0 = [] := rfl; rw [e_, List.append_nil]; exact HP9.out⟩⟩
                      case round =>
                        clear HP9
                        obtain ⟨z, hzi, hgz, rfl, HPz⟩ := hrel
                        have HZI := Aside0.mk hzi
                        have HGZ := Aside0.mk hgz
                        clear hzi hgz
                        by_cases hlt : z < i
                        · have hz : (z : Int) < 2 * k := aux5 HN.out hlt
                          have hz6 : z ≤ 6 := Nat.le_trans HZI.out hn6
                          have HZ : Aside0 (0 ≤ (z : Int) ∧ (z : Int) < 2 * k) := ⟨Int.natCast_nonneg _, hz⟩
                          have HLT := Aside0.mk hlt
                          have b0 : wr.cell? ⟨gS, 0, none⟩ = some (.int .i64 s.f0) := (blk_cell HPz.out.bs 0).trans rfl
                          go_upto_region 21 with (fail)
                          go_cut [88] (fun vq we => ∃ q : Bool, vq = .bool q ∧ Aside0 (decide (s.f0 = 0 ∧ s.f2 = Sem.oth s.f1) = q) ∧ Aside0 (Pf w we w.heap.size gS es' cl' s u6 (T' ++ Sem.alone s ++ zs (K ++ [s]) s z)))
                          case first => as_aux_lemma =>
                            by_cases h0 : s.f0 = 0
                            · by_cases h2 : s.f2 = Sem.oth s.f1
                              · go_wp2
                                repeat (go_quiet (fail); try go_wp2)
                                go_meet
                                case rel => exact ⟨true, rfl, ⟨decide_eq_true ⟨h0, h2⟩⟩, ⟨by (repeat (first | exact HPz.out | refine Pf.drewN ?_ _ | refine Pf.alloc ?_ _))⟩⟩
                              · have e2_ : (s.f2 == Sem.oth s.f1) = false := beq_eq_false_iff_ne.mpr h2
                                go_wp2
                                repeat (go_quiet (fail); try go_wp2)
                                go_meet
                                case rel => exact ⟨false, rfl, ⟨decide_eq_false (fun h => h2 h.2)⟩, ⟨by (repeat (first | exact HPz.out | refine Pf.drewN ?_ _ | refine Pf.alloc ?_ _))⟩⟩
                            · have e0_ : (s.f0 == 0) = false := beq_eq_false_iff_ne.mpr h0
                              go_wp2
                              repeat (go_quiet (fail); try go_wp2)
                              go_meet
                              case rel => exact ⟨false, rfl, ⟨decide_eq_false (fun h => h0 h.1)⟩, ⟨by (repeat (first | exact HPz.out | refine Pf.drewN ?_ _ | refine Pf.alloc ?_ _))⟩⟩
                          case rest =>
                            obtain ⟨q, rfl, HQ, HPa⟩ := hcut
                            clear b0 HPz
                            go_upto_if 88 with (fail)
                            go_cut [6] (fun v6 we => Aside0 (Pf w we w.heap.size gS es' cl' s v6 (T' ++ Sem.alone s ++ zs (K ++ [s]) s z ++ z1 s (z : Int))))
                            case first =>
                              cases q with
                              | true =>
                                have ha := Aside0.mk (show z1 s (z : Int) = [⟨0, s.f1, (z : Int)⟩] from if_pos (of_decide_eq_true HQ.out))
                                go_wp2_with (first | ((with_reducible refine gate_builtin (b := .append) (xs := #[.tmp 89, .tmp 93]) rfl ?_); at_builtin; refine put1 (.tmp 93) (.tmp 89) ⟨0, s.f1, (z : Int)⟩ HPa.out rfl rfl rfl rfl (lenZ HTm.out hz6) ?_; intro v5_ w5_ hp5_; have HPn := Aside0.mk hp5_; clear hp5_))
                                repeat (go_quiet (first | ((with_reducible refine gate_builtin (b := .append) (xs := #[.tmp 89, .tmp 93]) rfl ?_); at_builtin; refine put1 (.tmp 93) (.tmp 89) ⟨0, s.f1, (z : Int)⟩ HPa.out rfl rfl rfl rfl (lenZ HTm.out hz6) ?_; intro v5_ w5_ hp5_; have HPn := Aside0.mk hp5_; clear hp5_)); try go_wp2_with (first | ((with_reducible refine gate_builtin (b := .append) (xs := #[.tmp 89, .tmp 93]) rfl ?_); at_builtin; refine put1 (.tmp 93) (.tmp 89) ⟨0, s.f1, (z : Int)⟩ HPa.out rfl rfl rfl rfl (lenZ HTm.out hz6) ?_; intro v5_ w5_ hp5_; have HPn := Aside0.mk hp5_; clear hp5_)))
                                go_meet
                                case rel => exact ⟨by rw [ha.out]; exact HPn.out⟩
                              | false =>
                                have ha := Aside0.mk (show z1 s (z : Int) = [] from if_neg (of_decide_eq_false HQ.out))
                                go_wp2
                                repeat (go_quiet (fail); try go_wp2)
                                go_meet
                                case rel => exact ⟨by rw [ha.out, List.append_nil]; exact HPa.out⟩
                            case rest =>
                              have HPb := hcut
                              clear hcut HPa HQ
                              have b0 : wc.cell? ⟨gS, 0, none⟩ = some (.int .i64 s.f0) := (blk_cell HPb.out.bs 0).trans rfl
                              have b1 : wc.cell? ⟨gS, 1, none⟩ = some (.int .i64 s.f1) := (blk_cell HPb.out.bs 1).trans rfl
                              have b2 : wc.cell? ⟨gS, 2, none⟩ = some (.int .i64 s.f2) := (blk_cell HPb.out.bs 2).trans rfl
                              go_upto_region 23 with (fail)
                              go_cut [99] (fun vq we => ∃ q : Bool, vq = .bool q ∧ Aside0 (decide ((⟨0, s.f2, (z : Int)⟩ : Sem.Sy) ∈ K ++ [s]) = q) ∧ Aside0 (Pf w we w.heap.size gS es' cl' s u6 (T' ++ Sem.alone s ++ zs (K ++ [s]) s z ++ z1 s (z : Int))))
                              case first => as_aux_lemma =>
                                go_wp2_with (first | (at_lookup; refine look rfl (.tmp 95) (.tmp 98) rfl HM6.out hk.2 HKok3.out HPb.out.bm ⟨0, s.f2, (z : Int)⟩ ⟨Or.inl rfl, HSok.out.2.2, HZ.out⟩ rfl rfl _ rfl ?_))
                                repeat (go_quiet (first | (at_lookup; refine look rfl (.tmp 95) (.tmp 98) rfl HM6.out hk.2 HKok3.out HPb.out.bm ⟨0, s.f2, (z : Int)⟩ ⟨Or.inl rfl, HSok.out.2.2, HZ.out⟩ rfl rfl _ rfl ?_)); try go_wp2_with (first | (at_lookup; refine look rfl (.tmp 95) (.tmp 98) rfl HM6.out hk.2 HKok3.out HPb.out.bm ⟨0, s.f2, (z : Int)⟩ ⟨Or.inl rfl, HSok.out.2.2, HZ.out⟩ rfl rfl _ rfl ?_)))
                                go_meet
                                case rel => exact ⟨_, rfl, ⟨rfl⟩, ⟨by (repeat (first | exact HPb.out | refine Pf.drewN ?_ _ | refine Pf.alloc ?_ _))⟩⟩
                              case rest =>
                                obtain ⟨q, rfl, HQ, HPc⟩ := hcut
                                clear b0 b1 b2 HPb
                                have b0 : wc.cell? ⟨gS, 0, none⟩ = some (.int .i64 s.f0) := (blk_cell HPc.out.bs 0).trans rfl
                                have b1 : wc.cell? ⟨gS, 1, none⟩ = some (.int .i64 s.f1) := (blk_cell HPc.out.bs 1).trans rfl
                                have b2 : wc.cell? ⟨gS, 2, none⟩ = some (.int .i64 s.f2) := (blk_cell HPc.out.bs 2).trans rfl
                                go_upto_if 99 with (fail)
                                go_cut [6] (fun v6 we => Aside0 (Pf w we w.heap.size gS es' cl' s v6 (T' ++ Sem.alone s ++ zs (K ++ [s]) s z ++ z1 s (z : Int) ++ z2 (K ++ [s]) s (z : Int))))
                                case first => as_aux_lemma =>
                                  cases q with
                                  | true =>
                                    have ha := Aside0.mk (show z2 (K ++ [s]) s (z : Int) = [⟨s.f0, s.f1, (z : Int)⟩] from if_pos (of_decide_eq_true HQ.out))
                                    go_wp2_with (first | ((with_reducible refine gate_builtin (b := .append) (xs := #[.tmp 100, .tmp 106]) rfl ?_); at_builtin; refine put1 (.tmp 106) (.tmp 100) ⟨s.f0, s.f1, (z : Int)⟩ HPc.out rfl rfl rfl rfl (lenA HTm.out hz6) ?_; intro v5_ w5_ hp5_; have HPn := Aside0.mk hp5_; clear hp5_))
                                    repeat (go_quiet (first | ((with_reducible refine gate_builtin (b := .append) (xs := #[.tmp 100, .tmp 106]) rfl ?_); at_builtin; refine put1 (.tmp 106) (.tmp 100) ⟨s.f0, s.f1, (z : Int)⟩ HPc.out rfl rfl rfl rfl (lenA HTm.out hz6) ?_; intro v5_ w5_ hp5_; have HPn := Aside0.mk hp5_; clear hp5_)); try go_wp2_with (first | ((with_reducible refine gate_builtin (b := .append) (xs := #[.tmp 100, .tmp 106]) rfl ?_); at_builtin; refine put1 (.tmp 106) (.tmp 100) ⟨s.f0, s.f1, (z : Int)⟩ HPc.out rfl rfl rfl rfl (lenA HTm.out hz6) ?_; intro v5_ w5_ hp5_; have HPn := Aside0.mk hp5_; clear hp5_)))
                                    go_meet
                                    case rel => exact ⟨by rw [ha.out]; exact HPn.out⟩
                                  | false =>
                                    have ha := Aside0.mk (show z2 (K ++ [s]) s (z : Int) = [] from if_neg (of_decide_eq_false HQ.out))
                                    go_wp2
                                    repeat (go_quiet (fail); try go_wp2)
                                    go_meet
                                    case rel => exact ⟨by rw [ha.out, List.append_nil]; exact HPc.out⟩
                                case rest =>
                                  have HPd := hcut
                                  clear hcut HPc HQ b0 b1 b2
                                  go_wp2
                                  repeat (go_quiet (fail); try go_wp2)
                                  go_loopg [6, 13] 2 (fun gg v6 v13 wr => ∃ f : Nat, f ≤ 2 ∧ 2 - f ≤ gg ∧ v13 = .int .i64 f ∧ Aside0 (Pf w wr w.heap.size gS es' cl' s v6 (T' ++ Sem.alone s ++ zs (K ++ [s]) s z ++ z1 s (z : Int) ++ z2 (K ++ [s]) s (z : Int) ++ z3 (K ++ [s]) s (z : Int) f)))
                                  case atStart => exact ⟨0, Nat.zero_le _, Nat.le_refl _, rfl, ⟨by have e_ : z3 (K ++ [s]) s (z : Int) 0 = [] := rfl; rw [e_, List.append_nil]; exact HPd.out⟩⟩
                                  case round =>
                                    clear HPd
                                    obtain ⟨f, hf2, hgf, rfl, HPf⟩ := hrel
                                    have HF2 := Aside0.mk hf2
                                    have HGF := Aside0.mk hgf
                                    clear hf2 hgf
                                    by_cases hlf : f < 2
                                    · have hf1 : (f : Int) ≤ 1 := aux6 hlf
                                      have HFO : Aside0 ((f : Int) = 0 ∨ (f : Int) = 1) := ⟨aux7 hlf⟩
                                      have HLF := Aside0.mk hlf
                                      have b0 : wr.cell? ⟨gS, 0, none⟩ = some (.int .i64 s.f0) := (blk_cell HPf.out.bs 0).trans rfl
                                      go_upto_region 28 with (fail)
                                      go_cut [122] (fun vq we => ∃ q : Bool, vq = .bool q ∧ Aside0 (decide (s.f0 = 0 ∧ (⟨(f : Int), (z : Int), s.f1⟩ : Sem.Sy) ∈ K ++ [s]) = q) ∧ Aside0 (Pf w we w.heap.size gS es' cl' s u6 (T' ++ Sem.alone s ++ zs (K ++ [s]) s z ++ z1 s (z : Int) ++ z2 (K ++ [s]) s (z : Int) ++ z3 (K ++ [s]) s (z : Int) f)))
                                      case first => as_aux_lemma =>
                                        by_cases h0 : s.f0 = 0
                                        · have hq_ : ∃ q : Bool, decide ((⟨(f : Int), (z : Int), s.f1⟩ : Sem.Sy) ∈ K ++ [s]) = q := ⟨_, rfl⟩
                                          obtain ⟨q, hq⟩ := hq_
                                          have HQ := Aside0.mk hq
                                          clear hq
                                          have hrun := look_run HM6.out hk.2 HKok3.out HPf.out.bm ⟨(f : Int), (z : Int), s.f1⟩ ⟨HFO.out, HZ.out, HSok.out.2.1⟩ q HQ.out
                                          go_wp2
                                          repeat (go_quiet (fail); try go_wp2)
                                          go_meet
                                          case rel => exact ⟨q, rfl, ⟨by rw [← HQ.out]; exact decide_eq_decide.2 ⟨fun h => h.2, fun h => ⟨h0, h⟩⟩⟩, ⟨by (repeat (first | exact HPf.out | refine Pf.drewN ?_ _ | refine Pf.alloc ?_ _))⟩⟩
                                        · have e0_ : (s.f0 == 0) = false := beq_eq_false_iff_ne.mpr h0
                                          go_wp2
                                          repeat (go_quiet (fail); try go_wp2)
                                          go_meet
                                          case rel => exact ⟨false, rfl, ⟨decide_eq_false (fun h => h0 h.1)⟩, ⟨by (repeat (first | exact HPf.out | refine Pf.drewN ?_ _ | refine Pf.alloc ?_ _))⟩⟩
                                      case rest =>
                                        obtain ⟨q, rfl, HQ, HPg⟩ := hcut
                                        clear b0 HPf
                                        cases q with
                                        | true =>
                                          have ha := Aside0.mk (show z3 (K ++ [s]) s (z : Int) (f + 1) = z3 (K ++ [s]) s (z : Int) f ++ [⟨(f : Int), (z : Int), s.f2⟩] from by rw [z3, if_pos (of_decide_eq_true HQ.out)])
                                          go_wp2_with (first | ((with_reducible refine gate_builtin (b := .append) (xs := #[.tmp 123, .tmp 128]) rfl ?_); at_builtin; refine put1 (.tmp 128) (.tmp 123) ⟨(f : Int), (z : Int), s.f2⟩ HPg.out rfl rfl rfl rfl (lenC HTm.out hz6 HF2.out) ?_; intro v5_ w5_ hp5_; have HPn := Aside0.mk hp5_; clear hp5_))
                                          repeat (go_quiet (first | ((with_reducible refine gate_builtin (b := .append) (xs := #[.tmp 123, .tmp 128]) rfl ?_); at_builtin; refine put1 (.tmp 128) (.tmp 123) ⟨(f : Int), (z : Int), s.f2⟩ HPg.out rfl rfl rfl rfl (lenC HTm.out hz6 HF2.out) ?_; intro v5_ w5_ hp5_; have HPn := Aside0.mk hp5_; clear hp5_)); try go_wp2_with (first | ((with_reducible refine gate_builtin (b := .append) (xs := #[.tmp 123, .tmp 128]) rfl ?_); at_builtin; refine put1 (.tmp 128) (.tmp 123) ⟨(f : Int), (z : Int), s.f2⟩ HPg.out rfl rfl rfl rfl (lenC HTm.out hz6 HF2.out) ?_; intro v5_ w5_ hp5_; have HPn := Aside0.mk hp5_; clear hp5_)))
                                          go_roundg (2 - (f + 1))
                                          case measure => exact aux8 HLF.out HGF.out
                                          case rel => exact ⟨f + 1, HLF.out, Nat.le_refl _, by go_num, ⟨by rw [ha.out, ← List.append_assoc]; exact HPn.out⟩⟩
                                        | false =>
                                          have ha := Aside0.mk (show z3 (K ++ [s]) s (z : Int) (f + 1) = z3 (K ++ [s]) s (z : Int) f from by rw [z3, if_neg (of_decide_eq_false HQ.out), List.append_nil])
                                          go_wp2
                                          repeat (go_quiet (fail); try go_wp2)
                                          go_roundg (2 - (f + 1))
                                          case measure => exact aux8 HLF.out HGF.out
                                          case rel => exact ⟨f + 1, HLF.out, Nat.le_refl _, by go_num, ⟨by rw [ha.out]; exact HPg.out⟩⟩
                                    · have hf1 : ¬ (f : Int) ≤ 1 := aux9 hlf
                                      have hf2 : f = 2 := Nat.le_antisymm HF2.out (Nat.le_of_not_lt hlf)
                                      have HPe : Aside0 (Pf w wr w.heap.size gS es' cl' s u6 (T' ++ Sem.alone s ++ zs (K ++ [s]) s (z + 1))) := ⟨by rw [zs_succ, z_all, ← List.append_assoc, ← List.append_assoc, ← List.append_assoc]; rw [hf2] at HPf; exact HPf.out⟩
                                      clear HPf hlf
                                      go_wp2
                                      repeat (go_quiet (fail); try go_wp2)
                                      go_roundg (i - (z + 1))
                                      case measure => exact aux8 HLT.out HGZ.out
                                      case rel => exact ⟨z + 1, HLT.out, Nat.le_refl _, by go_num, HPe⟩
                        · have hz : ¬ (z : Int) < 2 * k := aux10 HN.out hlt
                          have hze : z = i := Nat.le_antisymm HZI.out (Nat.le_of_not_lt hlt)
                          have HPk : Aside0 (Pf w wr w.heap.size gS es' cl' s u6 (T' ++ Sem.alone s ++ zs (K ++ [s]) s i)) := ⟨by rw [← hze]; exact HPz.out⟩
                          clear HPz hlt hze
                          have b0 : wr.cell? ⟨gS, 0, none⟩ = some (.int .i64 s.f0) := (blk_cell HPk.out.bs 0).trans rfl
                          go_upto_region 31 with (fail)
                          go_cut [154] (fun vq we => ∃ q : Bool, vq = .bool q ∧ Aside0 (decide (Sem.allOf (K ++ [s]) s) = q) ∧ Aside0 (Pf w we w.heap.size gS es' cl' s u6 (T' ++ Sem.alone s ++ zs (K ++ [s]) s i)))
                          case first => as_aux_lemma =>
                            by_cases h1 : s.f0 = 1
                            · have h0 : ¬ s.f0 = 0 := fun e => by rw [h1] at e; exact absurd e (by decide)
                              have e0_ : (s.f0 == 0) = false := beq_eq_false_iff_ne.mpr h0
                              obtain ⟨q, hq⟩ : ∃ q : Bool, decide ((⟨0, s.f1, Sem.oth s.f2⟩ : Sem.Sy) ∈ K ++ [s]) = q := ⟨_, rfl⟩
                              have HQ := Aside0.mk hq
                              clear hq
                              cases q with
                              | true =>
                                have hrun := look_run HM6.out hk.2 HKok3.out HPk.out.bm ⟨0, s.f1, (Sem.oth s.f2)⟩ ⟨Or.inl rfl, HSok.out.2.1, Sem.oth_range HSok.out.2.2⟩ true HQ.out
                                go_wp2
                                repeat (go_quiet (fail); try go_wp2)
                                go_meet
                                case rel => exact ⟨true, rfl, ⟨decide_eq_true (Or.inl ⟨h1, of_decide_eq_true HQ.out⟩)⟩, ⟨by (repeat (first | exact HPk.out | refine Pf.drewN ?_ _ | refine Pf.alloc ?_ _))⟩⟩
                              | false =>
                                have hrun := look_run HM6.out hk.2 HKok3.out HPk.out.bm ⟨0, s.f1, (Sem.oth s.f2)⟩ ⟨Or.inl rfl, HSok.out.2.1, Sem.oth_range HSok.out.2.2⟩ false HQ.out
                                go_wp2
                                repeat (go_quiet (fail); try go_wp2)
                                go_meet
                                case rel => exact ⟨false, rfl, ⟨decide_eq_false (fun h => h.elim (fun h => of_decide_eq_false HQ.out h.2) (fun h => h0 h.1))⟩, ⟨by (repeat (first | exact HPk.out | refine Pf.drewN ?_ _ | refine Pf.alloc ?_ _))⟩⟩
                            · have h0 : s.f0 = 0 := HSok.out.1.resolve_right h1
                              have e1_ : (s.f0 == 1) = false := beq_eq_false_iff_ne.mpr h1
                              obtain ⟨q, hq⟩ : ∃ q : Bool, decide ((⟨1, s.f1, Sem.oth s.f2⟩ : Sem.Sy) ∈ K ++ [s]) = q := ⟨_, rfl⟩
                              have HQ := Aside0.mk hq
                              clear hq
                              have hrun := look_run HM6.out hk.2 HKok3.out HPk.out.bm ⟨1, s.f1, (Sem.oth s.f2)⟩ ⟨Or.inr rfl, HSok.out.2.1, Sem.oth_range HSok.out.2.2⟩ q HQ.out
                              go_wp2
                              repeat (go_quiet (fail); try go_wp2)
                              go_meet
                              case rel => exact ⟨q, rfl, ⟨by rw [← HQ.out]; exact decide_eq_decide.2 ⟨fun h => h.elim (fun h => absurd h.1 h1) (fun h => h.2), fun h => Or.inr ⟨h0, h⟩⟩⟩, ⟨by (repeat (first | exact HPk.out | refine Pf.drewN ?_ _ | refine Pf.alloc ?_ _))⟩⟩
                          case rest =>
                            obtain ⟨q, rfl, HQ, HPl⟩ := hcut
                            clear b0 HPk
                            have hfr : Aside0 (Sem.fresh k (K ++ [s]) s = Sem.alone s ++ zs (K ++ [s]) s i ++ (if Sem.allOf (K ++ [s]) s then Sem.everyS k else [])) := ⟨by unfold Sem.fresh zs Sem.terms; rw [hn]⟩
                            cases q with
                            | false =>
                              have HPq : Aside0 (Pf w wc w.heap.size gS es' cl' s u6 (T' ++ Sem.fresh k (K ++ [s]) s)) := ⟨by rw [hfr.out, if_neg (of_decide_eq_false HQ.out), List.append_nil, ← List.append_assoc]; exact HPl.out⟩
                              go_wp2
                              repeat (go_quiet (fail); try go_wp2)
                              go_roundg (mes (K ++ [s]) (T' ++ Sem.fresh k (K ++ [s]) s))
                              case measure => exact HMR.out
                              case rel => exact ⟨K ++ [s], T' ++ Sem.fresh k (K ++ [s]) s, es', cl', Nat.le_refl _, HG3.out, HI3, HM6, ⟨HPq.out.leave⟩⟩
                            | true =>
                              go_wp2
                              repeat (go_quiet (fail); try go_wp2)
                              go_loopg [6, 156] i (fun gg v6 v156 wr => ∃ a : Nat, a ≤ i ∧ i - a ≤ gg ∧ v156 = .int .i64 a ∧ Aside0 (Pf w wr w.heap.size gS es' cl' s v6 (T' ++ Sem.alone s ++ zs (K ++ [s]) s i ++ eachA k i a)))
                              case atStart => exact ⟨0, Nat.zero_le _, Nat.le_refl _, rfl, ⟨by have e_ : eachA k i 0 = [] := rfl; rw [e_, List.append_nil]; exact HPl.out⟩⟩
                              case round =>
                                obtain ⟨a, hai, hga, rfl, HPm⟩ := hrel
                                have HAI := Aside0.mk hai
                                have HGA := Aside0.mk hga
                                clear hai hga
                                by_cases hla : a < i
                                · have hza : (a : Int) < 2 * k := aux5 HN.out hla
                                  have HLA := Aside0.mk hla
                                  clear hla
                                  go_wp2
                                  repeat (go_quiet (fail); try go_wp2)
                                  go_loopg [6, 160] i (fun gg v6 v160 wr => ∃ b : Nat, b ≤ i ∧ i - b ≤ gg ∧ v160 = .int .i64 b ∧ Aside0 (Pf w wr w.heap.size gS es' cl' s v6 (T' ++ Sem.alone s ++ zs (K ++ [s]) s i ++ eachA k i a ++ eachB k (a : Int) b)))
                                  case atStart => exact ⟨0, Nat.zero_le _, Nat.le_refl _, rfl, ⟨by have e_ : eachB k (a : Int) 0 = [] := rfl; rw [e_, List.append_nil]; exact HPm.out⟩⟩
                                  case round =>
                                    obtain ⟨b, hbi, hgb, rfl, HPo⟩ := hrel
                                    have HBI := Aside0.mk hbi
                                    have HGB := Aside0.mk hgb
                                    clear hbi hgb
                                    by_cases hlb : b < i
                                    · have hzb : (b : Int) < 2 * k := aux5 HN.out hlb
                                      have HLB := Aside0.mk hlb
                                      clear hlb
                                      go_wp2_with (first | ((with_reducible refine gate_builtin (b := .append) (xs := #[.tmp 163, .tmp 170]) rfl ?_); at_builtin; refine put2 (.tmp 170) (.tmp 163) ⟨0, (a : Int), (b : Int)⟩ ⟨1, (a : Int), (b : Int)⟩ HPo.out rfl rfl rfl rfl (lenH HTm.out hn6 HAI.out HBI.out) ?_; intro v5_ w5_ hp5_; have HPn := Aside0.mk hp5_; clear hp5_))
                                      repeat (go_quiet (first | ((with_reducible refine gate_builtin (b := .append) (xs := #[.tmp 163, .tmp 170]) rfl ?_); at_builtin; refine put2 (.tmp 170) (.tmp 163) ⟨0, (a : Int), (b : Int)⟩ ⟨1, (a : Int), (b : Int)⟩ HPo.out rfl rfl rfl rfl (lenH HTm.out hn6 HAI.out HBI.out) ?_; intro v5_ w5_ hp5_; have HPn := Aside0.mk hp5_; clear hp5_)); try go_wp2_with (first | ((with_reducible refine gate_builtin (b := .append) (xs := #[.tmp 163, .tmp 170]) rfl ?_); at_builtin; refine put2 (.tmp 170) (.tmp 163) ⟨0, (a : Int), (b : Int)⟩ ⟨1, (a : Int), (b : Int)⟩ HPo.out rfl rfl rfl rfl (lenH HTm.out hn6 HAI.out HBI.out) ?_; intro v5_ w5_ hp5_; have HPn := Aside0.mk hp5_; clear hp5_)))
                                      go_roundg (i - (b + 1))
                                      case measure => exact aux8 HLB.out HGB.out
                                      case rel => exact ⟨b + 1, HLB.out, Nat.le_refl _, by go_num, ⟨by rw [eachB, ← List.append_assoc]; exact HPn.out⟩⟩
                                    · have hzb : ¬ (b : Int) < 2 * k := aux10 HN.out hlb
                                      have hbe : b = i := Nat.le_antisymm HBI.out (Nat.le_of_not_lt hlb)
                                      have HPp : Aside0 (Pf w wr w.heap.size gS es' cl' s u6 (T' ++ Sem.alone s ++ zs (K ++ [s]) s i ++ eachA k i (a + 1))) := ⟨by rw [eachA, ← List.append_assoc]; rw [hbe] at HPo; exact HPo.out⟩
                                      clear HPo hlb hbe
                                      go_wp2
                                      repeat (go_quiet (fail); try go_wp2)
                                      go_roundg (i - (a + 1))
                                      case measure => exact aux8 HLA.out HGA.out
                                      case rel => exact ⟨a + 1, HLA.out, Nat.le_refl _, by go_num, HPp⟩
                                · have hza : ¬ (a : Int) < 2 * k := aux10 HN.out hla
                                  have hae : a = i := Nat.le_antisymm HAI.out (Nat.le_of_not_lt hla)
                                  have HPq : Aside0 (Pf w wr w.heap.size gS es' cl' s u6 (T' ++ Sem.fresh k (K ++ [s]) s)) := ⟨by rw [hfr.out, if_pos (of_decide_eq_true HQ.out), ← List.append_assoc, ← List.append_assoc, ← each_all k i hn]; rw [hae] at HPm; exact HPm.out⟩
                                  clear HPm hla hae
                                  go_wp2
                                  repeat (go_quiet (fail); try go_wp2)
                                  go_roundg (mes (K ++ [s]) (T' ++ Sem.fresh k (K ++ [s]) s))
                                  case measure => exact HMR.out
                                  case rel => exact ⟨K ++ [s], T' ++ Sem.fresh k (K ++ [s]) s, es', cl', Nat.le_refl _, HG3.out, HI3, HM6, ⟨HPq.out.leave⟩⟩
end Go.Proofs.Ythnmllkhlinnaaa.Man
