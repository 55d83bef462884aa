/- The draw of a machine: it comes to an end, with short rows; no condition but the reader's own shape. -/
import Derived.Test.YtiplbleghaoehaaSemA
import Derived.Test.YtiplbleghaoehaaSemNamed
import Derived.Test.YtiplbleghaoehaaPAx23
namespace Go.Proofs.Ytiplbleghaoehaa.Sem
open Go.RowKit Go.Proofs.Ytiplbleghaoehaa.PA Go.Proofs.YtiplbleghaoehaaW.PrintWords Go.Proofs.YtiplbleghaoehaaW.PrintLast Go.Proofs.YtiplbleghaoehaaW.PrintMore
set_option linter.unusedVariables false
set_option linter.unusedSimpArgs false

theorem ev_succ {α : Type} {g : Nat → Option α} {x : α} (h : Ev (fun k => g (k + 1)) x) : Ev g x := Ev.step (f := fun k => g (k + 1)) (fun _ => rfl) h
def SmallM (r : List Int × List Int × List Int × Int) : Prop := r.1.length ≤ 13 ∧ r.2.1.length ≤ 13 ∧ r.2.2.1.length ≤ 13

theorem j2_ok {b : List Int} {p m : Int} (h : Rd b p m) (hm : m + 2 ≤ 1000000) (n : Int) (hn : n ≤ 1000000) (z o y : List Int) (hz : 1 ≤ z.length) (hz' : z.length ≤ 12) (ho : o.length ≤ 12) (hy : y.length ≤ 12) :
    ∃ r, Ev (fun k => spec_l20Machine.j2 k n b p z o y) r ∧ SmallM r := by
  obtain ⟨q, p', hq, hR⟩ := odd_ok h (by omega) n hn
  cases q with
  | false =>
    refine ⟨(z, o, y, p'), ?_, ⟨by show z.length ≤ 13; omega, by show o.length ≤ 13; omega, by show y.length ≤ 13; omega⟩⟩
    refine ev_succ ?_
    simp only [spec_l20Machine.j2]
    refine Ev.bind (ev1 hq) ?_
    simp only [Bool.false_eq_true, if_false]
    exact Ev.now _
  | true =>
    obtain ⟨r, hr, h1, h2, _, hR2⟩ := pick_ok hR (by omega) 3 (by omega)
    have h2 := h2 (by omega)
    by_cases e0 : r = 0
    · refine ⟨([], [], [], p' + 1), ?_, ⟨by simp, by simp, by simp⟩⟩
      refine ev_succ ?_
      simp only [spec_l20Machine.j2]
      refine Ev.bind (ev1 hq) ?_
      simp only [if_true]
      refine Ev.bind (ev1 hr) ?_
      simp only [if_pos e0]
      exact Ev.now _
    · by_cases e1 : r = 1
      · refine ⟨(z, o ++ [0], y, p' + 1), ?_, ⟨by show z.length ≤ 13; omega, by show (o ++ [0]).length ≤ 13; rw [List.length_append, List.length_singleton]; omega, by show y.length ≤ 13; omega⟩⟩
        refine ev_succ ?_
        simp only [spec_l20Machine.j2]
        refine Ev.bind (ev1 hq) ?_
        simp only [if_true]
        refine Ev.bind (ev1 hr) ?_
        simp only [if_neg e0, if_pos e1, Option.bind_some, List.nil_append, List.length_nil, if_pos (show 0 + o.length < 17592186044416 by omega), if_pos (show o.length < 17592186044416 by omega)]
        exact Ev.now _
      · refine ⟨(z.set (0 : Int).toNat (z.length : Int), o, y, p' + 1), ?_, ⟨by show (z.set _ _).length ≤ 13; rw [List.length_set]; omega, by show o.length ≤ 13; omega, by show y.length ≤ 13; omega⟩⟩
        refine ev_succ ?_
        simp only [spec_l20Machine.j2]
        refine Ev.bind (ev1 hq) ?_
        simp only [if_true]
        refine Ev.bind (ev1 hr) ?_
        simp only [if_neg e0, if_neg e1, Option.bind_some, List.nil_append, List.length_nil, if_pos (show 0 + z.length < 17592186044416 by omega), if_pos (show (0 : Int) < (z.length : Int) by omega)]
        exact Ev.now _

theorem l0_ok {b : List Int} (n : Int) (hn : n ≤ 1000000) (st : Nat) (hs : 1 ≤ st) (hs' : st ≤ 12) (d : Nat) : ∀ (i : Nat) (z o y : List Int) (p m : Int), i + d = st → z.length = i → o.length = i → y.length = i → Rd b p m → m + 3 * d + 2 ≤ 1000000 →
    ∃ r, Ev (fun k => spec_l20Machine.l0 k n (st : Int) (i : Int) b p z o y) r ∧ SmallM r := by
  induction d with
  | zero =>
    intro i z o y p m hi hz ho hy h hm
    obtain ⟨r, hr, hS⟩ := j2_ok h (by omega) n hn z o y (by omega) (by omega) (by omega) (by omega)
    refine ⟨r, ev_succ ?_, hS⟩
    simp only [spec_l20Machine.l0]
    simp only [if_neg (show ¬ (i : Int) < (st : Int) by omega)]
    exact hr
  | succ d ih =>
    intro i z o y p m hi hz ho hy h hm
    obtain ⟨x1, e1, _, _, _, hR1⟩ := pick_ok h (by omega) (st : Int) (by omega)
    obtain ⟨x2, e2, _, _, _, hR2⟩ := pick_ok hR1 (by omega) (st : Int) (by omega)
    obtain ⟨x3, e3, _, _, _, hR3⟩ := pick_ok hR2 (by omega) 2 (by omega)
    obtain ⟨r, hr, hS⟩ := ih (i + 1) (z ++ [x1]) (o ++ [x2]) (y ++ [x3]) _ _ (by omega) (by rw [List.length_append, List.length_singleton]; omega) (by rw [List.length_append, List.length_singleton]; omega) (by rw [List.length_append, List.length_singleton]; omega) hR3 (by omega)
    have gz : z.length < 17592186044416 := by omega
    have go : o.length < 17592186044416 := by omega
    have gy : y.length < 17592186044416 := by omega
    have gi : (i : Int) < (st : Int) := by omega
    have hw : wrap64 ((i : Int) + 1) = ((i + 1 : Nat) : Int) := by unfold wrap64; omega
    refine ⟨r, ev_succ ?_, hS⟩
    simp only [spec_l20Machine.l0]
    simp only [if_pos gi, hw]
    refine Ev.bind (ev1 e1) ?_
    simp only [if_pos gz]
    refine Ev.bind (ev1 e2) ?_
    simp only [if_pos go]
    refine Ev.bind (ev1 e3) ?_
    simp only [if_pos gy]
    exact hr

theorem count_lits : ((List.range 6).all fun st : Nat => [true, false].all fun ring => match Man.count0 20 (st : Int) ring 0 [] [] with | some p => p.1.length == st && p.2.length == st | none => false) = true := by kernel_rfl
theorem count_ok (st : Nat) (h : st ≤ 5) (ring : Bool) (l : List Int) : ∃ z o, Ev (fun k => spec_l4Count.f k (st : Int) ring l) (z, o, l) ∧ z.length = st ∧ o.length = st := by
  have hx := List.all_eq_true.1 (List.all_eq_true.1 count_lits st (List.mem_range.2 (by omega))) ring (by cases ring <;> simp)
  revert hx
  cases e : Man.count0 20 (st : Int) ring 0 [] [] with
  | none => intro hx; exact absurd hx (by simp)
  | some q =>
    intro hx
    simp only [Bool.and_eq_true, beq_iff_eq] at hx
    refine ⟨q.1, q.2, ev_one (k := 20) (fun k => spec_l4Count.mono _ _ _ k) ?_, hx.1, hx.2⟩
    show Man.countF 20 (st : Int) ring l = _
    unfold Man.countF
    rw [e]
    rfl

theorem l1_ok {b : List Int} (n : Int) (hn : n ≤ 1000000) (st : Nat) (hs : 1 ≤ st) (hs' : st ≤ 5) (d : Nat) : ∀ (i : Nat) (y : List Int) (p m : Int), i + d = st → y.length = i → Rd b p m → m + d + 3 ≤ 1000000 →
    ∃ r, Ev (fun k => spec_l20Machine.l1 k n (st : Int) y (i : Int) b p) r ∧ SmallM r := by
  induction d with
  | zero =>
    intro i y p m hi hy h hm
    obtain ⟨x1, e1, _, _, _, hR1⟩ := pick_ok h (by omega) 2 (by omega)
    obtain ⟨z, o, hc, hz, ho⟩ := count_ok st hs' (x1 == 0) y
    obtain ⟨r, hr, hS⟩ := j2_ok hR1 (by omega) n hn z o y (by omega) (by omega) (by omega) (by omega)
    refine ⟨r, ev_succ ?_, hS⟩
    simp only [spec_l20Machine.l1]
    simp only [if_neg (show ¬ (i : Int) < (st : Int) by omega)]
    refine Ev.bind (ev1 e1) ?_
    refine Ev.bind hc ?_
    exact hr
  | succ d ih =>
    intro i y p m hi hy h hm
    obtain ⟨x1, e1, _, _, _, hR1⟩ := pick_ok h (by omega) 2 (by omega)
    obtain ⟨r, hr, hS⟩ := ih (i + 1) (y ++ [x1]) _ _ (by omega) (by rw [List.length_append, List.length_singleton]; omega) hR1 (by omega)
    have gy : y.length < 17592186044416 := by omega
    have gi : (i : Int) < (st : Int) := by omega
    have hw : wrap64 ((i : Int) + 1) = ((i + 1 : Nat) : Int) := by unfold wrap64; omega
    refine ⟨r, ev_succ ?_, hS⟩
    simp only [spec_l20Machine.l1]
    simp only [if_pos gi, hw]
    refine Ev.bind (ev1 e1) ?_
    simp only [if_pos gy]
    exact hr

def L8 : List ByteArray := [(⟨#[101, 118, 101, 114, 121]⟩ : ByteArray), (⟨#[115, 111, 109, 101]⟩ : ByteArray), (⟨#[110, 111]⟩ : ByteArray), (⟨#[101, 118, 101, 110]⟩ : ByteArray), (⟨#[97, 116, 108, 101, 97, 115, 116, 50]⟩ : ByteArray), (⟨#[97, 116, 108, 101, 97, 115, 116, 51]⟩ : ByteArray), (⟨#[106, 117, 115, 116, 49]⟩ : ByteArray), (⟨#[106, 117, 115, 116, 50]⟩ : ByteArray)]
def L4s : List ByteArray := [(⟨#[101, 118, 101, 114, 121]⟩ : ByteArray), (⟨#[115, 111, 109, 101]⟩ : ByteArray), (⟨#[101, 118, 101, 110]⟩ : ByteArray), (⟨#[106, 117, 115, 116, 49]⟩ : ByteArray)]
theorem names8 : ((List.range 8).all fun i : Nat => decide (1 ≤ (namedM (rdOf ByteArray.empty L8 (i : Int)).data.toList).1.length)) = true := by kernel_rfl
theorem named8 (i : Int) (h0 : 0 ≤ i) (h8 : i < 8) : 1 ≤ (namedM (rdOf ByteArray.empty L8 i).data.toList).1.length := by
  have h := List.all_eq_true.1 names8 i.toNat (List.mem_range.2 (by omega))
  rw [show ((i.toNat : Nat) : Int) = i by omega] at h
  exact of_decide_eq_true h
theorem bothM_pos (a0 a1 a2 b0 b1 b2 : List Int) (h : (bothM a0 a1 a2 b0 b1 b2).2.2.2 = true) : 1 ≤ (bothM a0 a1 a2 b0 b1 b2).1.length := by
  revert h
  unfold bothM
  split
  · rename_i h
    intro _
    show 1 ≤ (segs _ _ _ _).length
    rw [segs_length]
    exact Nat.mul_pos h.1.1.1 h.2.1.1.1
  · intro h; exact absurd h (by simp)

theorem l20Machine_ok {b : List Int} {p m : Int} (h : Rd b p m) (hm : m + 100 ≤ 1000000) (n : Int) (hn : n ≤ 1000000) : ∃ r, Ev (fun k => spec_l20Machine.f k b p n) r ∧ SmallM r := by
  unfold spec_l20Machine.f
  obtain ⟨c, hc, c0, c1, _, hR⟩ := pick_ok h (by omega) 4 (by omega)
  have c1 := c1 (by omega)
  by_cases e0 : c = 0
  · obtain ⟨s, hs, s0, s1, _, hR2⟩ := pick_ok hR (by omega) 4 (by omega)
    have s1 := s1 (by omega)
    have hw : wrap64 (1 + s) = ((1 + s.toNat : Nat) : Int) := by unfold wrap64; omega
    obtain ⟨r, hr, hS⟩ := l0_ok (b := b) n hn (1 + s.toNat) (by omega) (by omega) (1 + s.toNat) 0 [] [] [] _ _ (by omega) rfl rfl rfl hR2 (by omega)
    refine ⟨r, Ev.bind (ev1 hc) ?_, hS⟩
    simp only [if_pos e0]
    refine Ev.bind (ev1 hs) ?_
    simp only [hw]
    exact hr
  · by_cases e1 : c = 1
    · obtain ⟨s, hs, s0, s1, _, hR2⟩ := pick_ok hR (by omega) 5 (by omega)
      have s1 := s1 (by omega)
      have hw : wrap64 (1 + s) = ((1 + s.toNat : Nat) : Int) := by unfold wrap64; omega
      obtain ⟨r, hr, hS⟩ := l1_ok (b := b) n hn (1 + s.toNat) (by omega) (by omega) (1 + s.toNat) 0 [] _ _ (by omega) rfl hR2 (by omega)
      refine ⟨r, Ev.bind (ev1 hc) ?_, hS⟩
      simp only [if_neg e0, if_pos e1]
      refine Ev.bind (ev1 hs) ?_
      simp only [hw]
      exact hr
    · obtain ⟨s, hs, s0, s1, _, hR2⟩ := pick_ok hR (by omega) 8 (by omega)
      have s1 := s1 (by omega)
      obtain ⟨t, ht, t0, t1, _, hR3⟩ := pick_ok hR2 (by omega) 3 (by omega)
      have hN := spec_NamedMachine_eq (rdOf ByteArray.empty L8 s)
      have hP := named8 s s0 s1
      have hL := namedM_len (rdOf ByteArray.empty L8 s).data.toList
      revert hN hP hL
      generalize namedM (rdOf ByteArray.empty L8 s).data.toList = M
      intro hN hP hL
      by_cases et : t = 0
      · obtain ⟨u, hu, u0, u1, _, hR4⟩ := pick_ok hR3 (by omega) 4 (by omega)
        have u1 := u1 (by omega)
        have hN2 := spec_NamedMachine_eq (rdOf ByteArray.empty L4s u)
        have hL2 := namedM_len (rdOf ByteArray.empty L4s u).data.toList
        revert hN2 hL2
        generalize namedM (rdOf ByteArray.empty L4s u).data.toList = M2
        intro hN2 hL2
        have hB := spec_MachineBoth_eq M.1 M.2.1 M.2.2.1 M2.1 M2.2.1 M2.2.2.1 (by have := hL.1; omega) (by have := hL2.1; omega)
        have hBl := bothM_len M.1 M.2.1 M.2.2.1 M2.1 M2.2.1 M2.2.2.1
        have hBp := bothM_pos M.1 M.2.1 M.2.2.1 M2.1 M2.2.1 M2.2.2.1
        revert hB hBl hBp
        generalize bothM M.1 M.2.1 M.2.2.1 M2.1 M2.2.1 M2.2.2.1 = B
        intro hB hBl hBp
        have fin : ∃ r, Ev (fun k => if B.2.2.2 = true then spec_l20Machine.j2 k n b (p + 1 + 1 + 1 + 1) B.1 B.2.1 B.2.2.1 else spec_l20Machine.j2 k n b (p + 1 + 1 + 1 + 1) M.1 M.2.1 M.2.2.1) r ∧ SmallM r := by
          by_cases eb : B.2.2.2 = true
          · simp only [if_pos eb]
            exact j2_ok hR4 (by omega) n hn _ _ _ (hBp eb) hBl.1 hBl.2.1 hBl.2.2
          · simp only [if_neg eb]
            exact j2_ok hR4 (by omega) n hn _ _ _ hP hL.1 hL.2.1 hL.2.2
        obtain ⟨r, hr, hS⟩ := fin
        refine ⟨r, Ev.bind (ev1 hc) ?_, hS⟩
        simp only [if_neg e0, if_neg e1, Option.bind_some]
        refine Ev.bind (ev1 hs) ?_
        simp only [if_pos s0]
        rw [show (([(⟨#[101, 118, 101, 114, 121]⟩ : ByteArray), (⟨#[115, 111, 109, 101]⟩ : ByteArray), (⟨#[110, 111]⟩ : ByteArray), (⟨#[101, 118, 101, 110]⟩ : ByteArray), (⟨#[97, 116, 108, 101, 97, 115, 116, 50]⟩ : ByteArray), (⟨#[97, 116, 108, 101, 97, 115, 116, 51]⟩ : ByteArray), (⟨#[106, 117, 115, 116, 49]⟩ : ByteArray), (⟨#[106, 117, 115, 116, 50]⟩ : ByteArray)] : List ByteArray)) = L8 from rfl, show (([(⟨#[101, 118, 101, 114, 121]⟩ : ByteArray), (⟨#[115, 111, 109, 101]⟩ : ByteArray), (⟨#[101, 118, 101, 110]⟩ : ByteArray), (⟨#[106, 117, 115, 116, 49]⟩ : ByteArray)] : List ByteArray)) = L4s from rfl]
        simp only [if_pos (show s < ((L8.length : Nat) : Int) from s1)]
        refine Ev.bind hN ?_
        refine Ev.bind (ev1 ht) ?_
        simp only [if_pos et]
        refine Ev.bind (ev1 hu) ?_
        simp only [if_pos u0, if_pos (show u < ((L4s.length : Nat) : Int) from u1)]
        refine Ev.bind hN2 ?_
        exact Ev.bind hB hr
      · obtain ⟨r, hr, hS⟩ := j2_ok hR3 (by omega) n hn M.1 M.2.1 M.2.2.1 hP hL.1 hL.2.1 hL.2.2
        refine ⟨r, Ev.bind (ev1 hc) ?_, hS⟩
        simp only [if_neg e0, if_neg e1, Option.bind_some]
        refine Ev.bind (ev1 hs) ?_
        simp only [if_pos s0]
        rw [show (([(⟨#[101, 118, 101, 114, 121]⟩ : ByteArray), (⟨#[115, 111, 109, 101]⟩ : ByteArray), (⟨#[110, 111]⟩ : ByteArray), (⟨#[101, 118, 101, 110]⟩ : ByteArray), (⟨#[97, 116, 108, 101, 97, 115, 116, 50]⟩ : ByteArray), (⟨#[97, 116, 108, 101, 97, 115, 116, 51]⟩ : ByteArray), (⟨#[106, 117, 115, 116, 49]⟩ : ByteArray), (⟨#[106, 117, 115, 116, 50]⟩ : ByteArray)] : List ByteArray)) = L8 from rfl]
        simp only [if_pos (show s < ((L8.length : Nat) : Int) from s1)]
        refine Ev.bind hN ?_
        refine Ev.bind (ev1 ht) ?_
        simp only [if_neg et]
        exact hr
end Go.Proofs.Ytiplbleghaoehaa.Sem
