/- The set of known sentences (a map of sentences to truths) and the row of sentences that are to be done: what each operation does to both; no condition but the sentences' ranges and the row's length. -/
import Derived.Test.YthnmllkhlinnaaaSemClosed
import Derived.Test.YthnmllkhlinnaaaSetBool
import Derived.DeepKeys4
namespace Go.Proofs.Ythnmllkhlinnaaa.Man
open Go.RowKit Go.Proofs.Ythnmllkhlinnaaa.PA Go.Proofs.YthnmllkhlinnaaaW.PrintWords Go.Proofs.YthnmllkhlinnaaaW.PrintLast Go.Proofs.YthnmllkhlinnaaaW.PrintMore
set_option linter.unusedVariables false
set_option linter.unusedSimpArgs false
open Go.WideShapes Go.WideMaps Go.Maps
open Go.WideElems (Fit rg)

theorem laidOut : laidOutB Try.prog = true := by kernel_rfl
theorem rowSay : (29 : TypeId) < Try.prog.types.size := of_decide_eq_true (by kernel_rfl)
theorem wideSay : (match Try.prog.underlying 29 with | some (.array _ _) | some (.struct _) => true | _ => false) = true := by rw [Try.underlying29]
theorem lawSay : Keyed Try.prog 29 := Keyed.of_law (deep_law_laid laidOut (m := 3) (by omega) rowSay (by kernel_rfl) wideSay)

def valS (s : Sem.Sy) : Value := .agg #[.int .i64 s.f0, .int .i64 s.f1, .int .i64 s.f2]
/-- A sentence as a key. -/
noncomputable def litS (s : Sem.Sy) : Lit := (keyOf Try.prog 29 (valS s)).getD (.bool false)
theorem keys_all : ((List.range 2).all fun f => (List.range 6).all fun o => (List.range 6).all fun t => (keyOf Try.prog 29 (.agg #[.int .i64 (f : Int), .int .i64 (o : Int), .int .i64 (t : Int)])).isSome) = true := by kernel_rfl
theorem key_of {k : Int} (hk : k ≤ 3) {s : Sem.Sy} (h : Sem.Oks k s) : keyOf Try.prog 29 (valS s) = some (litS s) := by
  obtain ⟨f, o, t⟩ := s
  obtain ⟨h0, h1, h2⟩ := h
  simp only at h0 h1 h2
  obtain ⟨f', rfl⟩ := Int.eq_ofNat_of_zero_le (show 0 ≤ f by omega)
  obtain ⟨o', rfl⟩ := Int.eq_ofNat_of_zero_le h1.1
  obtain ⟨t', rfl⟩ := Int.eq_ofNat_of_zero_le h2.1
  have := List.all_eq_true.1 (List.all_eq_true.1 (List.all_eq_true.1 keys_all f' (List.mem_range.2 (by omega))) o' (List.mem_range.2 (by omega))) t' (List.mem_range.2 (by omega))
  unfold litS valS
  obtain ⟨l, hl⟩ := Option.isSome_iff_exists.1 this
  rw [hl]; rfl
theorem isKey_of {k : Int} (hk : k ≤ 3) {s : Sem.Sy} (h : Sem.Oks k s) : WideAt.IsKeyLit (litS s) := lawSay.key (key_of hk h)
theorem key_inj {k : Int} (hk : k ≤ 3) {s s' : Sem.Sy} (h : Sem.Oks k s) (h' : Sem.Oks k s') (e : litS s = litS s') : s = s' := by
  have := lawSay.inj (key_of hk h) (e ▸ key_of hk h')
  unfold valS at this
  simp only [Value.agg.injEq, Array.mk.injEq, List.cons.injEq, Value.int.injEq] at this
  obtain ⟨f, o, t⟩ := s
  obtain ⟨f', o', t'⟩ := s'
  simp only at this
  obtain ⟨⟨_, rfl⟩, ⟨_, rfl⟩, ⟨_, rfl⟩, _⟩ := this
  rfl
theorem keys_any {k : Int} (hk : k ≤ 3) {K : List Sem.Sy} (hK : ∀ s ∈ K, Sem.Oks k s) {s : Sem.Sy} (h : Sem.Oks k s) : (K.map litS).any (fun x => x.sameKey (litS s)) = decide (s ∈ K) := by
  rw [Bool.eq_iff_iff, List.any_eq_true, decide_eq_true_eq]
  constructor
  · rintro ⟨x, hx, he⟩
    obtain ⟨s', hs', rfl⟩ := List.mem_map.1 hx
    by_cases e : litS s' = litS s
    · rw [← key_inj hk (hK s' hs') h e]; exact hs'
    · rw [sameKey_ne e] at he; exact absurd he (by simp)
  · intro hs
    exact ⟨litS s, List.mem_map.2 ⟨s, hs, rfl⟩, WideAt.sameKey_self (isKey_of hk h)⟩

/-- What the map's block holds: just the known sentences. -/
def MapK (es : Array MapEntry) (cl : Nat) (K : List Sem.Sy) : Prop :=
  Fit (H := Unit) Try.prog 29 (plainElem Try.prog 4) es cl ∧ es.size ≤ K.length ∧ setOf (.lit (.bool true)) (K.map litS) = .map ((es.toList.map (rg Try.prog 29 (plainElem (H := Unit) Try.prog 4))).foldr DataW.insert [])
theorem MapK.own {es : Array MapEntry} {cl : Nat} {K : List Sem.Sy} (h : MapK es cl K) {w : World} {b : Nat} (hb : w.heap[b]? = some (.map es cl)) : w.ownsMap (H := Unit) Try.prog 29 (plainElem Try.prog 4) b K.length (setOf (.lit (.bool true)) (K.map litS)) :=
  ⟨es, cl, hb, h.1, h.2.1, h.2.2⟩
theorem MapK.nil : MapK #[] 0 [] := by
  obtain ⟨es, cl, hb, h1, h2, h3⟩ := World.ownsMap_made (H := Unit) (default : World) Try.prog 29 (plainElem Try.prog 4)
  have e : (default : World).heap.size = (default : World).heap.size := rfl
  have hb' := (MapKept.heap_alloc (default : World) (.map #[] 0)).1
  rw [hb] at hb'
  cases hb'
  exact ⟨h1, h2, h3⟩

theorem zeroBool (w : World) : (zeroValue 4).run Try.prog w = .ok (.bool false) w := by kernel_rfl

section
variable {w : World} {ops : Array Oper} {rest : List Oper} {o : Oper} {a : Act} {Q : Exit → Act → World → Prop}

/-- Is a sentence known? -/
theorem look (hg : o.guard = none) (m x : Operand) (hop : o.op = Op.lookup 48 m x false) {es : Array MapEntry} {cl : Nat} {K : List Sem.Sy} (h : MapK es cl K) {k : Int} (hk : k ≤ 3) (hK : ∀ s ∈ K, Sem.Oks k s) {gM : Nat}
    (hb : w.heap[gM]? = some (.map es cl)) (s : Sem.Sy) (hs : Sem.Oks k s) (hm : a.eval m = .map (some gM)) (hx : a.eval x = .agg #[.int .i64 s.f0, .int .i64 s.f1, .int .i64 s.f2]) (q : Bool) (hq : decide (s ∈ K) = q)
    (hC : wpList Try.prog ops Q rest (a.put o.dst (.bool q)) w) : wpList Try.prog ops Q (o :: rest) a w :=
  SetB.wpList_lookup_set w hg m x 48 hop 29 4 lawSay Try.underlying48 Try.underlying4 (zeroBool w) gM K.length (K.map litS)
    (fun x hx => by obtain ⟨s', hs', rfl⟩ := List.mem_map.1 hx; exact isKey_of hk (hK s' hs')) hm (h.own hb) (valS s) (litS s) hx (key_of hk hs) q (by rw [keys_any hk hK hs, hq]) hC

/-- .. as the operation's run. -/
theorem look_run {es : Array MapEntry} {cl : Nat} {K : List Sem.Sy} (h : MapK es cl K) {k : Int} (hk : k ≤ 3) (hK : ∀ s ∈ K, Sem.Oks k s) {gM : Nat}
    (hb : w.heap[gM]? = some (.map es cl)) (s : Sem.Sy) (hs : Sem.Oks k s) (q : Bool) (hq : decide (s ∈ K) = q) :
    (Instr.lookup 48 (.map (some gM)) (.agg #[.int .i64 s.f0, .int .i64 s.f1, .int .i64 s.f2]) false).run Try.prog w = .ok (.bool q) w := by
  obtain ⟨v, ps, hrun, hv⟩ := (h.own hb).lookup lawSay Try.underlying48 (zeroBool w) (plainElem_bool Try.underlying4 false) (key_of hk hs)
  rw [SetB.atKey_set (litS s) (K.map litS) (fun x hx => by obtain ⟨s', hs', rfl⟩ := List.mem_map.1 hx; exact isKey_of hk (hK s' hs')), keys_any hk hK hs, hq] at hv
  obtain ⟨c, rfl, hc⟩ := SetB.plainElem_bool_inv Try.underlying4 hv
  simp only [Prod.mk.injEq, DataW.lit.injEq, Lit.bool.injEq] at hc
  obtain ⟨rfl, _⟩ := hc
  exact hrun

/-- A sentence becomes known. -/
theorem store (hg : o.guard = none) (m x v : Operand) (hop : o.op = Op.mapUpdate 48 m x v) {es : Array MapEntry} {cl : Nat} {K : List Sem.Sy} (h : MapK es cl K) {k : Int} (hk : k ≤ 3) (hl : K.length ≤ 1000) {gM : Nat}
    (hb : w.heap[gM]? = some (.map es cl)) (s : Sem.Sy) (hs : Sem.Oks k s) (hm : a.eval m = .map (some gM)) (hx : a.eval x = .agg #[.int .i64 s.f0, .int .i64 s.f1, .int .i64 s.f2]) (hv : a.eval v = .bool true)
    (hC : ∀ w' es' cl', MapK es' cl' (K ++ [s]) → w'.heap[gM]? = some (.map es' cl') → w.grownBy w' (some gM) → wpList Try.prog ops Q rest (a.put o.dst undef) w') : wpList Try.prog ops Q (o :: rest) a w := by
  refine wpList_mapUpdate_own w hg m x v 48 hop 29 4 lawSay Try.underlying48 (plainElem (H := Unit) Try.prog 4) gM K.length _ hm (h.own hb) (by unfold maxLen; omega) (valS s) (.bool true) (litS s) hx hv (key_of hk hs) (.lit (.bool true)) [] (plainElem_bool Try.underlying4 true) ?_
  intro w' hown hgr
  obtain ⟨es', cl', h1, h2, h3, h4⟩ := hown
  refine hC w' es' cl' ⟨h2, by simpa using h3, ?_⟩ h1 hgr
  rw [List.map_append, List.map_cons, List.map_nil, setOf_snoc]
  exact h4
end

/-! ### the state: the map, the sentence in hand, the row -/
structure Pf (w W : World) (gM gS : Nat) (es : Array MapEntry) (cl : Nat) (s : Sem.Sy) (v : Value) (T : List Sem.Sy) : Prop where
  row : Kd.R k29 29 W w.heap.size (fun k_ => k_ ≠ gM ∧ k_ ≠ gS) v T
  bm : W.heap[gM]? = some (.map es cl)
  bs : W.heap[gS]? = some (.cells #[.int .i64 s.f0, .int .i64 s.f1, .int .i64 s.f2] 29 (0, 0))
  bel : Below w.heap.size w W

theorem Pf.alloc {w W : World} {gM gS : Nat} {es : Array MapEntry} {cl : Nat} {s : Sem.Sy} {v : Value} {T : List Sem.Sy} (h : Pf w W gM gS es cl s v T) (o : Obj) : Pf w (W.alloc o) gM gS es cl s v T :=
  ⟨Kd.R_alloc h.row _, blk_alloc h.bm _, blk_alloc h.bs _, below_alloc h.bel _⟩

section
variable {w W : World} {gM gS : Nat} {es : Array MapEntry} {cl : Nat} {s : Sem.Sy} {v : Value} {T : List Sem.Sy} {ops : Array Oper} {rest : List Oper} {o : Oper} {a : Act} {Q : Exit → Act → World → Prop}

theorem Pf.next (h : Pf w W gM gS es cl s v T) {v1 : Value} {w1 : World} {T1 : List Sem.Sy} (ho : Kd.R k29 29 w1 w.heap.size (fun k_ => k_ ≠ gM ∧ k_ ≠ gS) v1 T1) (hb : Below w.heap.size w w1) (hg : W.grownBy w1 v.ownBlock) : Pf w w1 gM gS es cl s v1 T1 :=
  ⟨ho, blk_grown h.bm hg (Kd.R_away h.row (fun _ hk => hk.1)), blk_grown h.bs hg (Kd.R_away h.row (fun _ hk => hk.2)), hb⟩

/-- One more is put to the row. -/
theorem put1 (x : Operand) (sl : Operand) (t0 : Sem.Sy) (h : Pf w W gM gS es cl s v T) (hgd : o.guard = none) (ho : o.op = .call { callee := .builtin .append, args := #[sl, x], argTypes := #[27, 27] })
    (hs : a.eval sl = v) (hx : a.eval x = .slice (some ⟨W.heap.size, 0, none⟩) 1 1) (hl : T.length ≤ 100000)
    (hC : ∀ v1 w1, Pf w w1 gM gS es cl s v1 (T ++ [t0]) → wpList Try.prog ops Q rest (a.put o.dst v1) w1) :
    wpList Try.prog ops Q (o :: rest) a (W.alloc (.cells #[.int .i64 t0.f0, .int .i64 t0.f1, .int .i64 t0.f2] 29)) := by
  refine Kd.R_append k29 (w0 := w) w.heap.size hgd sl x 27 29 (.agg #[(.int .i64 0), (.int .i64 0), (.int .i64 0)]) 24 ho Try.underlying27 info29 rfl (by decide) (by omega) v T t0 [.int .i64 t0.f0, .int .i64 t0.f1, .int .i64 t0.f2] (fun k_ => k_ ≠ gM ∧ k_ ≠ gS) (fun _ => False) hs hx (k29_mkM _ _ _ t0) (fun _ hk => hk.elim)
    (fun k_ hk => ⟨Kd.freshB h.bm k_ hk, Kd.freshB h.bs k_ hk⟩) h.row h.bel (below_size h.bel) (by omega) ?_
  intro v1 w1 ho1 hb1 hg1 _
  exact hC v1 w1 (h.next ho1 hb1 hg1)

theorem reps2 (t0 t1 : Sem.Sy) (Wx : World) (base : Nat) : Reps (k29.M Wx base (fun _ => True)) 3 [t0, t1] [.int .i64 t0.f0, .int .i64 t0.f1, .int .i64 t0.f2, .int .i64 t1.f0, .int .i64 t1.f1, .int .i64 t1.f2] :=
  Reps.c3 (show Kd.M k29 _ _ _ t0 [.int .i64 t0.f0, .int .i64 t0.f1, .int .i64 t0.f2] from k29_mkM _ _ _ t0) (Reps.c3 (show Kd.M k29 _ _ _ t1 [.int .i64 t1.f0, .int .i64 t1.f1, .int .i64 t1.f2] from k29_mkM _ _ _ t1) (Reps.none _ _))

/-- Two more are put to the row. -/
theorem put2 (x : Operand) (sl : Operand) (t0 t1 : Sem.Sy) (h : Pf w W gM gS es cl s v T) (hgd : o.guard = none) (ho : o.op = .call { callee := .builtin .append, args := #[sl, x], argTypes := #[27, 27] })
    (hs : a.eval sl = v) (hx : a.eval x = .slice (some ⟨W.heap.size, 0, none⟩) 2 2) (hl : T.length ≤ 100000)
    (hC : ∀ v1 w1, Pf w w1 gM gS es cl s v1 (T ++ [t0, t1]) → wpList Try.prog ops Q rest (a.put o.dst v1) w1) :
    wpList Try.prog ops Q (o :: rest) a (W.alloc (.cells #[.int .i64 t0.f0, .int .i64 t0.f1, .int .i64 t0.f2, .int .i64 t1.f0, .int .i64 t1.f1, .int .i64 t1.f2] 29)) := by
  have h' := h.alloc (.cells #[.int .i64 t0.f0, .int .i64 t0.f1, .int .i64 t0.f2, .int .i64 t1.f0, .int .i64 t1.f1, .int .i64 t1.f2] 29)
  have hlit : Kd.R k29 29 (W.alloc (.cells #[.int .i64 t0.f0, .int .i64 t0.f1, .int .i64 t0.f2, .int .i64 t1.f0, .int .i64 t1.f1, .int .i64 t1.f2] 29)) W.heap.size (fun _ => True) (.slice (some ⟨W.heap.size, 0, none⟩) 2 2) [t0, t1] := by
    refine ⟨fun _ _ => trivial, [.int .i64 t0.f0, .int .i64 t0.f1, .int .i64 t0.f2, .int .i64 t1.f0, .int .i64 t1.f1, .int .i64 t1.f2], ?_, ?_⟩
    · have h2 := World.ownsRow_lit (base := W.heap.size) (e := 29) (size := 3) W #[.int .i64 t0.f0, .int .i64 t0.f1, .int .i64 t0.f2, .int .i64 t1.f0, .int .i64 t1.f1, .int .i64 t1.f2] 2 (Nat.le_refl _) (by unfold maxLen; omega) rfl
      show World.ownsRow _ _ _ 3 _ _ _
      simpa using h2
    · refine (reps2 t0 t1 W W.heap.size).imp_ (fun p c hp => k29.M_mono (fun k hk => ⟨trivial, fun he => ?_⟩) (Kd.M_below (k29.M_bound hp) (below_alloc (Below.refl _ _) _)))
      have h3 : k = W.heap.size := by simpa [Value.ownBlock] using he
      have := hk.2.2.1
      omega
  refine Kd.R_append_rows k29 (w0 := w) w.heap.size hgd sl x 27 29 (.agg #[(.int .i64 0), (.int .i64 0), (.int .i64 0)]) 24 ho Try.underlying27 info29 rfl (by decide) (by omega) v T [t0, t1] (some ⟨W.heap.size, 0, none⟩) 2 2 (fun k_ => k_ ≠ gM ∧ k_ ≠ gS) (fun _ => False) hs hx h'.row (Kd.R_reads' hlit).2.2 (fun p cs hp => by have := k29_open hp; subst this; exact k29_mkM _ _ _ p) (fun _ hk => hk.elim)
    (fun k_ hk => ⟨Kd.freshB h'.bm k_ hk, Kd.freshB h'.bs k_ hk⟩) h'.bel (below_size h'.bel) (by omega) ?_
  intro v1 w1 ho1 hb1 hg1 _
  exact hC v1 w1 (h'.next ho1 hb1 hg1)
end
end Go.Proofs.Ythnmllkhlinnaaa.Man
