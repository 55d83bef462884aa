/- Circles, in plain words: both programs' answers; no condition but a row's length. -/
import Derived.Test.YtieplhemmfibiaaSemReached
import Derived.Test.YtieplhemmfibiaaSemMach
import Derived.Test.YtieplhemmfibiaaPAx23
import Derived.Test.YtieplhemmfibiaaPAx22
namespace Go.Proofs.Ytieplhemmfibiaa.Sem
open Go.RowKit Go.Proofs.Ytieplhemmfibiaa.PA Go.Proofs.YtieplhemmfibiaaW.PrintWords Go.Proofs.YtieplhemmfibiaaW.PrintLast Go.Proofs.YtieplhemmfibiaaW.PrintMore
set_option linter.unusedVariables false
set_option linter.unusedSimpArgs false

theorem MachOk.ste {a b c : List Int} (h : MachOk a b c) : Ste a b a.length ∧ 0 < a.length := by
  obtain ⟨⟨h1, h2, h3, h4⟩, hs⟩ := h
  refine ⟨⟨rfl, h3, h2, fun x h0 hx => ?_⟩, h1⟩
  have := hs x.toNat (by omega)
  unfold StOk at this
  rw [Int.toNat_of_nonneg h0] at this
  exact ⟨this.1, this.2.1⟩

/-- From a state no way leads away and back. -/
def Good (a b : List Int) (x : Int) : Prop := ∀ y, Rch a b x y → y ≠ x → ¬ Rch a b y x
def Good1 (a b : List Int) (x : Int) : Prop := (rd a x ≠ x → ¬ Rch a b (rd a x) x) ∧ (rd b x ≠ x → ¬ Rch a b (rd b x) x)
theorem first_step {a b : List Int} {x y : Int} (h : Rch a b x y) : y ≠ x → ∃ m, (m = rd a x ∨ m = rd b x) ∧ m ≠ x ∧ Rch a b m y := by
  induction h with
  | here => exact fun h => absurd rfl h
  | @zero z _ ih =>
    intro hne
    by_cases hz : z = x
    · subst hz
      exact ⟨rd a z, Or.inl rfl, hne, Rch.here⟩
    · obtain ⟨m, h1, h2, h3⟩ := ih hz
      exact ⟨m, h1, h2, h3.zero⟩
  | @one z _ ih =>
    intro hne
    by_cases hz : z = x
    · subst hz
      exact ⟨rd b z, Or.inr rfl, hne, Rch.here⟩
    · obtain ⟨m, h1, h2, h3⟩ := ih hz
      exact ⟨m, h1, h2, h3.one⟩
theorem good_iff (a b : List Int) (x : Int) : Good a b x ↔ Good1 a b x := by
  constructor
  · intro h
    exact ⟨fun h1 => h _ Rch.here.zero h1, fun h1 => h _ Rch.here.one h1⟩
  · intro h y hy hne hb
    obtain ⟨m, hm, h1, h2⟩ := first_step hy hne
    have h3 := h2.trans hb
    rcases hm with rfl | rfl
    · exact h.1 h1 h3
    · exact h.2 h1 h3

/-! ### the program -/
theorem impl_circle_in {a b : List Int} (c : List Int) {n : Nat} (S : Ste a b n) (x : Int) (xs : List Int) (i : Nat) (ys : List Int) (hys : ∀ y ∈ ys, 0 ≤ y ∧ y < n) (hl : ys.length ≤ 12) (res : Bool) (d : Nat) : ∀ j, j + d = ys.length →
    ((∀ y ∈ ys.drop j, y ≠ x → ¬ Rch a b y x) → Ev (fun k => impl_NoCircle.l0 k xs (xs.length : Int) (wrap64 ((i : Int) + 1)) a b c) res) → ((∃ y ∈ ys.drop j, y ≠ x ∧ Rch a b y x) → res = false) →
    Ev (fun k => impl_NoCircle.l1 k x xs (xs.length : Int) (i : Int) ys (ys.length : Int) (j : Int) a b c) res := by
  induction d with
  | zero =>
    intro j hj h1 h2
    have := h1 (by rw [List.drop_of_length_le (by omega)]; simp)
    refine Ev.step (f := fun k => impl_NoCircle.l0 k xs (xs.length : Int) (wrap64 ((i : Int) + 1)) a b c) (fun k => ?_) this
    simp only [impl_NoCircle.l1]
    rw [if_neg (by omega)]
  | succ d ih =>
    intro j hj h1 h2
    have hlt : j < ys.length := by omega
    rw [List.drop_eq_getElem_cons hlt] at h1 h2
    have ih := ih (j + 1) (by omega)
    have hw : wrap64 ((j : Int) + 1) = ((j + 1 : Nat) : Int) := w1 j (by omega)
    by_cases he : ys[j] = x
    · refine Ev.step (f := fun k => impl_NoCircle.l1 k x xs (xs.length : Int) (i : Int) ys (ys.length : Int) ((j + 1 : Nat) : Int) a b c) (fun k => ?_) (ih (fun h => h1 (fun y hy => ?_)) (fun h => h2 ?_))
      · simp only [impl_NoCircle.l1]
        rw [if_pos (by omega), if_pos (by omega), if_pos (by omega), rdN ys j hlt, if_pos he, hw]
      · rcases List.mem_cons.1 hy with rfl | hy
        · exact fun h' => absurd he h'
        · exact h y hy
      · obtain ⟨y, hy, h⟩ := h
        exact ⟨y, List.mem_cons_of_mem _ hy, h⟩
    · have hy := hys _ (List.getElem_mem hlt)
      obtain ⟨out, ho, R⟩ := impl_reached c S hy
      have hf := R.few S hy
      have n12 := S.n12
      have hc := contains_eq out x (by omega)
      refine Ev.step (f := fun k => (impl_Machine_reached.f k a b c ys[j]).bind fun t => (slices_Contains_int_int.f k t x).bind fun q => if q = true then some false else impl_NoCircle.l1 k x xs (xs.length : Int) (i : Int) ys (ys.length : Int) ((j + 1 : Nat) : Int) a b c) (fun k => ?_) (Ev.bind ho (Ev.bind hc ?_))
      · simp only [impl_NoCircle.l1]
        rw [if_pos (by omega), if_pos (by omega), if_pos (by omega), rdN ys j hlt, if_neg he, hw]
      · by_cases hm : x ∈ out
        · rw [decide_eq_true hm]
          simp only [if_true]
          rw [h2 ⟨ys[j], List.mem_cons_self, he, (R.full x).1 hm⟩]
          exact Ev.now _
        · rw [decide_eq_false hm]
          simp only [Bool.false_eq_true, if_false]
          refine ih (fun h => h1 (fun y hy' => ?_)) (fun h => h2 ?_)
          · rcases List.mem_cons.1 hy' with rfl | hy'
            · exact fun _ h' => hm ((R.full x).2 h')
            · exact h y hy'
          · obtain ⟨y, hy', h⟩ := h
            exact ⟨y, List.mem_cons_of_mem _ hy', h⟩

theorem impl_circle_from {a b : List Int} (c : List Int) {n : Nat} (S : Ste a b n) (xs : List Int) (hxs : ∀ y ∈ xs, 0 ≤ y ∧ y < n) (hl : xs.length ≤ 12) (d : Nat) : ∀ i, i + d = xs.length →
    ∃ res, Ev (fun k => impl_NoCircle.l0 k xs (xs.length : Int) (i : Int) a b c) res ∧ (res = true ↔ ∀ x ∈ xs.drop i, Good a b x) := by
  induction d with
  | zero =>
    intro i hi
    refine ⟨true, Ev.step (f := fun _ => some true) (fun k => ?_) (Ev.now _), ?_⟩
    · simp only [impl_NoCircle.l0]
      rw [if_neg (by omega)]
    · rw [List.drop_of_length_le (by omega)]; simp
  | succ d ih =>
    intro i hi
    have hlt : i < xs.length := by omega
    obtain ⟨res, hr, hres⟩ := ih (i + 1) (by omega)
    have hx := hxs _ (List.getElem_mem hlt)
    obtain ⟨out, ho, R⟩ := impl_reached c S hx
    have hf := R.few S hx
    have n12 := S.n12
    have hw : wrap64 ((i : Int) + 1) = ((i + 1 : Nat) : Int) := w1 i (by omega)
    rw [List.drop_eq_getElem_cons hlt]
    have step : ∀ r, Ev (fun k => impl_NoCircle.l1 k xs[i] xs (xs.length : Int) (i : Int) out (out.length : Int) ((0 : Nat) : Int) a b c) r → Ev (fun k => impl_NoCircle.l0 k xs (xs.length : Int) (i : Int) a b c) r := fun r h => by
      refine Ev.step (f := fun k => (impl_Machine_reached.f k a b c xs[i]).bind fun t => impl_NoCircle.l1 k xs[i] xs (xs.length : Int) (i : Int) t (t.length : Int) ((0 : Nat) : Int) a b c) (fun k => ?_) (Ev.bind ho h)
      simp only [impl_NoCircle.l0]
      rw [if_pos (by omega), if_pos (by omega), if_pos (by omega), rdN xs i hlt]
      rfl
    by_cases hg : Good a b xs[i]
    · refine ⟨res, step res (impl_circle_in c S _ xs i out (fun y hy => (R.snd y hy).range S hx) (by omega) res out.length 0 (by omega) (fun _ => by rw [hw]; exact hr) (fun h => ?_)), ?_⟩
      · obtain ⟨y, hy, h1, h2⟩ := h
        rw [List.drop_zero] at hy
        exact absurd h2 (hg y (R.snd y hy) h1)
      · rw [hres]
        exact ⟨fun h x hx => by
          rcases List.mem_cons.1 hx with rfl | hx
          · exact hg
          · exact h x hx, fun h x hx => h x (List.mem_cons_of_mem _ hx)⟩
    · refine ⟨false, step false (impl_circle_in c S _ xs i out (fun y hy => (R.snd y hy).range S hx) (by omega) false out.length 0 (by omega) (fun h => ?_) (fun _ => rfl)), ?_⟩
      · rw [List.drop_zero] at h
        exact absurd (fun y hy h1 => h y ((R.full y).2 hy) h1) hg
      · exact ⟨fun h => absurd h (by simp), fun h => absurd (h _ List.mem_cons_self) hg⟩

/-- What NoCircle answers. -/
def NoC (a b c : List Int) : Prop := MachOk a b c ∧ ∀ x, Rch a b 0 x → Good a b x

theorem impl_NoCircle_eq (a b c : List Int) : ∃ res, Ev (fun k => impl_NoCircle.f k a b c) res ∧ (res = true ↔ NoC a b c) := by
  unfold impl_NoCircle.f
  by_cases h : MachOk a b c
  · obtain ⟨S, hn⟩ := h.ste
    have hz : (0 : Int) ≤ 0 ∧ (0 : Int) < a.length := ⟨by omega, by omega⟩
    obtain ⟨out, ho, R⟩ := impl_reached c S hz
    have hf := R.few S hz
    have n12 := S.n12
    obtain ⟨res, hr, hres⟩ := impl_circle_from c S out (fun y hy => (R.snd y hy).range S hz) (by omega) out.length 0 (by omega)
    rw [List.drop_zero] at hres
    refine ⟨res, Ev.bind (impl_isMachine_eq a b c) ?_, ?_⟩
    · rw [decide_eq_true h]
      simp only [if_true]
      exact Ev.bind ho hr
    · rw [hres]
      exact ⟨fun h' => ⟨h, fun x hx => h' x ((R.full x).2 hx)⟩, fun h' x hx => h'.2 x ((R.full x).1 hx)⟩
  · refine ⟨false, Ev.bind (impl_isMachine_eq a b c) ?_, ?_⟩
    · rw [decide_eq_false h]
      simp only [Bool.false_eq_true, if_false]
      exact Ev.now _
    · exact ⟨fun h' => absurd h' (by simp), fun h' => absurd h'.1 h⟩

/-! ### the reference -/
theorem spec_circle_mark {a b : List Int} (c : List Int) {n : Nat} (S : Ste a b n) (x3 : List Int) (x4 x5 : Int) (r : Nat) (res : Bool) (d : Nat) : ∀ (j : Nat) (s : List Int), s.length = n → j + d = n →
    Ev (fun k => spec_NoCircle.l2 k x3 x4 x5 ((List.range' j d).foldl (upd a b) s) (wrap64 ((r : Int) + 1)) a b c) res → Ev (fun k => spec_NoCircle.l3 k x3 x4 x5 s (r : Int) (j : Int) a b c) res := by
  have n12 := S.n12
  induction d with
  | zero =>
    intro j s hs hj h
    refine Ev.step (f := fun k => spec_NoCircle.l2 k x3 x4 x5 s (wrap64 ((r : Int) + 1)) a b c) (fun k => ?_) h
    simp only [spec_NoCircle.l3]
    rw [if_neg (by omega)]
  | succ d ih =>
    intro j s hs hj h
    have st := S.st j (by omega) (by omega)
    rw [List.range'_succ, List.foldl_cons] at h
    refine Ev.step (f := fun k => spec_NoCircle.l3 k x3 x4 x5 (upd a b s j) (r : Int) ((j + 1 : Nat) : Int) a b c) (fun k => ?_) (ih (j + 1) (upd a b s j) (by unfold upd; split <;> simp [hs]) (by omega) h)
    simp only [spec_NoCircle.l3]
    rw [if_pos (by omega), if_pos (by omega), w1 j (by omega)]
    unfold upd
    by_cases h1 : rd s j = 1
    · have ha := S.la
      have hb := S.lb
      rw [if_pos h1, if_pos h1, if_pos (by omega), if_pos st.1.1, if_pos (by omega), if_pos (by omega), if_pos st.2.1, if_pos (by omega)]
    · rw [if_neg h1, if_neg h1]

theorem pass_len (a b : List Int) (n : Nat) (s : List Int) (hs : s.length = n) : (pass a b n s).length = n := by
  unfold pass
  have : ∀ (l : List Nat) (s : List Int), (l.foldl (upd a b) s).length = s.length := fun l => by
    induction l with
    | nil => exact fun s => rfl
    | cons j l ih => exact fun s => by rw [List.foldl_cons, ih]; unfold upd; split <;> simp
  rw [this, hs]

theorem spec_circle_rounds {a b : List Int} (c : List Int) {n : Nat} (S : Ste a b n) (x3 : List Int) (x4 : Nat) (hx : x4 < n) (x5 : Int) (res : Bool) (d : Nat) : ∀ (r : Nat) (s : List Int), s.length = n → r + d = n →
    (passes a b n d s).length = n → Ev (fun k => if rd (passes a b n d s) x4 = 1 then some false else spec_NoCircle.l1 k x3 (x4 : Int) (wrap64 (x5 + 1)) a b c) res → Ev (fun k => spec_NoCircle.l2 k x3 (x4 : Int) x5 s (r : Int) a b c) res := by
  have n12 := S.n12
  induction d with
  | zero =>
    intro r s hs hr hl h
    refine Ev.step (f := fun k => if rd s x4 = 1 then some false else spec_NoCircle.l1 k x3 (x4 : Int) (wrap64 (x5 + 1)) a b c) (fun k => ?_) h
    simp only [spec_NoCircle.l2]
    rw [if_neg (by omega), if_pos (by omega), if_pos (by omega)]
  | succ d ih =>
    intro r s hs hr hl h
    have ih := ih (r + 1) (pass a b n s) (pass_len a b n s hs) (by omega) hl h
    refine Ev.step (f := fun k => spec_NoCircle.l3 k x3 (x4 : Int) x5 s (r : Int) ((0 : Nat) : Int) a b c) (fun k => ?_) (spec_circle_mark c S x3 x4 x5 r _ n 0 s hs (by omega) (by rw [w1 r (by omega)]; rw [← List.range_eq_range']; exact ih))
    simp only [spec_NoCircle.l2]
    rw [if_pos (by omega)]
    rfl

/-- One letter: it leads back, or on. -/
theorem spec_circle_letter {a b : List Int} (c : List Int) {n : Nat} (S : Ste a b n) (x3 : List Int) (x4 : Nat) (hx : x4 < n) (x5 : Int) (m : Int) (hm : 0 ≤ m ∧ m < n) (res : Bool)
    (h1 : (m ≠ x4 → ¬ Rch a b m x4) → Ev (fun k => spec_NoCircle.l1 k x3 (x4 : Int) (wrap64 (x5 + 1)) a b c) res) (h2 : m ≠ x4 → Rch a b m x4 → res = false) : Ev (fun k => spec_NoCircle.j2 k x3 (x4 : Int) x5 m a b c) res := by
  have n12 := S.n12
  have la := S.la
  by_cases he : m = (x4 : Int)
  · refine Ev.step (f := fun k => spec_NoCircle.l1 k x3 (x4 : Int) (wrap64 (x5 + 1)) a b c) (fun k => ?_) (h1 (fun h => absurd he h))
    simp only [spec_NoCircle.j2]
    rw [if_pos he]
  · obtain ⟨out, _, R⟩ := impl_reached c S hm
    obtain ⟨hl, hk⟩ := marked S hm R
    have hk := hk x4 (by omega) (by omega)
    refine Ev.step (f := fun k => spec_NoCircle.l2 k x3 (x4 : Int) x5 ((List.replicate n 0).set m.toNat 1) ((0 : Nat) : Int) a b c) (fun k => ?_) (spec_circle_rounds c S x3 x4 hx x5 res n 0 _ (by simp) (by omega) hl ?_)
    · simp only [spec_NoCircle.j2, if_neg he, la, Int.toNat_natCast, if_pos (show (0 : Int) ≤ (n : Int) by omega), if_pos (show n ≤ 35184372088832 by omega), Option.bind_some, List.length_replicate, if_pos hm.1, if_pos hm.2]
      rfl
    · by_cases hr : Rch a b m x4
      · simp only [if_pos (hk.1 hr)]
        rw [h2 he hr]
        exact Ev.now _
      · have h0 := hk.2 hr
        simp only [h0, show ¬ (0 : Int) = 1 by omega, if_false]
        exact h1 (fun _ => hr)

theorem spec_circle_from {a b : List Int} (c : List Int) {n : Nat} (S : Ste a b n) (s : List Int) (hs : s.length = n) (hk : ∀ x : Int, 0 ≤ x → x < n → (Rch a b 0 x → rd s x = 1) ∧ (¬ Rch a b 0 x → rd s x = 0)) (d : Nat) : ∀ i : Nat, i + d = n →
    ∃ res, Ev (fun k => spec_NoCircle.l0 k s (i : Int) a b c) res ∧ (res = true ↔ ∀ x : Nat, i ≤ x → x < n → Rch a b 0 x → Good1 a b x) := by
  have n12 := S.n12
  have la := S.la
  have lb := S.lb
  induction d with
  | zero =>
    intro i hi
    refine ⟨true, Ev.step (f := fun _ => some true) (fun k => ?_) (Ev.now _), ?_⟩
    · simp only [spec_NoCircle.l0]
      rw [if_neg (by omega)]
    · exact ⟨fun _ x h1 h2 => by omega, fun _ => rfl⟩
  | succ d ih =>
    intro i hi
    obtain ⟨res, hr, hres⟩ := ih (i + 1) (by omega)
    have hki := hk i (by omega) (by omega)
    have st := S.st i (by omega) (by omega)
    have hw : wrap64 ((i : Int) + 1) = ((i + 1 : Nat) : Int) := w1 i (by omega)
    have hnext : (∀ x : Nat, i ≤ x → x < n → Rch a b 0 x → Good1 a b x) ↔ (Rch a b 0 i → Good1 a b i) ∧ ∀ x : Nat, i + 1 ≤ x → x < n → Rch a b 0 x → Good1 a b x := by
      constructor
      · intro h
        exact ⟨h i (Nat.le_refl _) (by omega), fun x h1 h2 => h x (by omega) h2⟩
      · rintro ⟨h0, h⟩ x h1 h2 h3
        rcases Nat.lt_or_ge i x with h4 | h4
        · exact h x (by omega) h2 h3
        · obtain rfl : x = i := by omega
          exact h0 h3
    rw [hnext, ← hres]
    by_cases hz : Rch a b 0 i
    · have start : ∀ r, Ev (fun k => spec_NoCircle.l1 k s (i : Int) 0 a b c) r → Ev (fun k => spec_NoCircle.l0 k s (i : Int) a b c) r := fun r h => by
        refine Ev.step (f := fun k => spec_NoCircle.l1 k s (i : Int) 0 a b c) (fun k => ?_) h
        simp only [spec_NoCircle.l0]
        rw [if_pos (by omega), if_pos (by omega), hki.1 hz, if_neg (by omega)]
      have w0 : wrap64 (0 + 1) = 1 := by unfold wrap64; omega
      have w2 : wrap64 (1 + 1) = 2 := by unfold wrap64; omega
      have l2 : ∀ r, Ev (fun k => spec_NoCircle.l0 k s ((i + 1 : Nat) : Int) a b c) r → Ev (fun k => spec_NoCircle.l1 k s (i : Int) 2 a b c) r := fun r h => by
        refine Ev.step (f := fun k => spec_NoCircle.l0 k s ((i + 1 : Nat) : Int) a b c) (fun k => ?_) h
        simp only [spec_NoCircle.l1]
        rw [if_neg (by omega), hw]
      have l1 : ∀ r, Ev (fun k => spec_NoCircle.j2 k s (i : Int) 1 (rd b i) a b c) r → Ev (fun k => spec_NoCircle.l1 k s (i : Int) 1 a b c) r := fun r h => by
        refine Ev.step (f := fun k => spec_NoCircle.j2 k s (i : Int) 1 (rd b i) a b c) (fun k => ?_) h
        simp only [spec_NoCircle.l1]
        rw [if_pos (by omega), if_pos (by omega), if_pos (by omega), if_pos True.intro, if_pos (by omega)]
      have l0 : ∀ r, Ev (fun k => spec_NoCircle.j2 k s (i : Int) 0 (rd a i) a b c) r → Ev (fun k => spec_NoCircle.l1 k s (i : Int) 0 a b c) r := fun r h => by
        refine Ev.step (f := fun k => spec_NoCircle.j2 k s (i : Int) 0 (rd a i) a b c) (fun k => ?_) h
        simp only [spec_NoCircle.l1]
        rw [if_pos (by omega), if_pos (by omega), if_pos (by omega), if_neg (by omega)]
      by_cases hg : Good1 a b i
      · refine ⟨res, start _ (l0 _ (spec_circle_letter c S s i (by omega) 0 _ st.1 _ (fun _ => ?_) (fun h1 h2 => absurd h2 (hg.1 h1)))), ⟨fun h => ⟨fun _ => hg, h⟩, fun h => h.2⟩⟩
        rw [w0]
        refine l1 _ (spec_circle_letter c S s i (by omega) 1 _ st.2 _ (fun _ => ?_) (fun h1 h2 => absurd h2 (hg.2 h1)))
        rw [w2]
        exact l2 _ hr
      · refine ⟨false, start _ (l0 _ (spec_circle_letter c S s i (by omega) 0 _ st.1 _ (fun ha => ?_) (fun _ _ => rfl))), ⟨fun h => absurd h (by simp), fun h => absurd (h.1 hz) hg⟩⟩
        rw [w0]
        exact l1 _ (spec_circle_letter c S s i (by omega) 1 _ st.2 _ (fun hb => absurd ⟨ha, hb⟩ hg) (fun _ _ => rfl))
    · refine ⟨res, Ev.step (f := fun k => spec_NoCircle.l0 k s ((i + 1 : Nat) : Int) a b c) (fun k => ?_) hr, ⟨fun h => ⟨fun h' => absurd h' hz, h⟩, fun h => h.2⟩⟩
      simp only [spec_NoCircle.l0]
      rw [if_pos (by omega), if_pos (by omega), if_pos (hki.2 hz), hw]

theorem spec_NoCircle_eq (a b c : List Int) (hl : a.length ≤ 1048577) : ∃ res, Ev (fun k => spec_NoCircle.f k a b c) res ∧ (res = true ↔ NoC a b c) := by
  unfold spec_NoCircle.f
  by_cases h : MachOk a b c
  · obtain ⟨S, hn⟩ := h.ste
    obtain ⟨s, hs, h1, h2⟩ := spec_reached c S hn
    obtain ⟨res, hr, hres⟩ := spec_circle_from c S s h1 h2 a.length 0 (by omega)
    refine ⟨res, Ev.bind (spec_MachineOk_eq a b c hl) ?_, ?_⟩
    · rw [decide_eq_true h]
      simp only [if_true]
      exact Ev.bind hs hr
    · rw [hres]
      constructor
      · refine fun h' => ⟨h, fun x hx => ?_⟩
        have hx' := hx.range S (z := 0) ⟨by omega, by omega⟩
        obtain ⟨m, rfl⟩ := Int.eq_ofNat_of_zero_le hx'.1
        exact (good_iff a b m).2 (h' m (by omega) (by omega) hx)
      · exact fun h' x _ _ hx => (good_iff a b x).1 (h'.2 x hx)
  · refine ⟨false, Ev.bind (spec_MachineOk_eq a b c hl) ?_, ?_⟩
    · rw [decide_eq_false h]
      simp only [Bool.false_eq_true, if_false]
      exact Ev.now _
    · exact ⟨fun h' => absurd h' (by simp), fun h' => absurd h'.1 h⟩
end Go.Proofs.Ytieplhemmfibiaa.Sem
