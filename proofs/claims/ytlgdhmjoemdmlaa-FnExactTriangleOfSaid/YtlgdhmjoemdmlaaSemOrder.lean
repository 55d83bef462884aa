/- Whether order matters, in plain words: both programs' answers; no condition but a row's length. -/
import Derived.Test.YtlgdhmjoemdmlaaSemA
import Derived.Test.YtlgdhmjoemdmlaaManOrd
import Derived.Test.YtlgdhmjoemdmlaaPAx11
import Derived.Test.YtlgdhmjoemdmlaaPAx4
namespace Go.Proofs.Ytlgdhmjoemdmlaa.Sem
open Go.RowKit Go.Proofs.Ytlgdhmjoemdmlaa.PA Go.Proofs.YtlgdhmjoemdmlaaW.PrintWords Go.Proofs.YtlgdhmjoemdmlaaW.PrintLast Go.Proofs.YtlgdhmjoemdmlaaW.PrintMore
set_option linter.unusedVariables false
set_option linter.unusedSimpArgs false

theorem MachOk.steps {a b c : List Int} (h : MachOk a b c) : Ste a b a.length ∧ 0 < a.length := by
  obtain ⟨⟨h1, h2, h3, h4⟩, hs⟩ := h
  refine ⟨⟨rfl, h3, h2, fun x h0 hx => ?_⟩, h1⟩
  have := hs x.toNat (by omega)
  unfold StOk at this
  rw [Int.toNat_of_nonneg h0] at this
  exact ⟨this.1, this.2.1⟩

/-- The two letters lead to the same state. -/
def Comm (a b : List Int) (x : Int) : Prop := rd b (rd a x) = rd a (rd b x)
/-- What AnyOrder answers. -/
def AnyO (a b c : List Int) : Prop := MachOk a b c ∧ ∀ x, Rch a b 0 x → rd b (rd a x) = rd a (rd b x)

theorem impl_anyOrder_eq {a b : List Int} (c : List Int) (S : Ste a b a.length) (hn : 0 < a.length) : ∃ res, Ev (fun k => impl_anyOrder.f k a b c) res ∧ (res = true ↔ ∀ x, Rch a b 0 x → rd b (rd a x) = rd a (rd b x)) := by
  have hz : (0 : Int) ≤ 0 ∧ (0 : Int) < a.length := ⟨by omega, by omega⟩
  obtain ⟨out, ho, R⟩ := impl_reached c S hz
  refine ⟨!out.any (Man.diff a b), ?_, ?_⟩
  · unfold impl_anyOrder.f Man.anyOrderF
    refine Ev.bind ho ?_
    have hin : ∀ x ∈ out, Man.InR a b x := fun x hx => by
      have h := (R.snd x hx).range S hz
      have st := S.st x h.1 h.2
      have lb := S.lb
      unfold Man.InR
      exact ⟨⟨h.1, h.2, by omega⟩, ⟨st.1.1, by omega⟩, st.2⟩
    simp only [if_pos hin]
    exact Ev.now _
  · rw [Bool.not_eq_true', List.any_eq_false]
    unfold Man.diff
    constructor
    · intro h x hx
      have := h x ((R.full x).2 hx)
      simpa using this
    · intro h x hx
      have := h x ((R.full x).1 hx)
      simpa using this

theorem spec_order_from {a b : List Int} (c : List Int) {n : Nat} (S : Ste a b n) (s : List Int) (hs : s.length = n) (hk : ∀ x : Int, 0 ≤ x → x < n → (Rch a b 0 x → rd s x = 1) ∧ (¬ Rch a b 0 x → rd s x = 0)) (d : Nat) : ∀ i : Nat, i + d = n →
    ∃ res, Ev (fun k => spec_AnyOrder.l0 k s (i : Int) a b c) res ∧ (res = true ↔ ∀ x : Nat, i ≤ x → x < n → Rch a b 0 x → Comm a b x) := by
  have n12 := S.n12
  have la := S.la
  have lb := S.lb
  induction d with
  | zero =>
    intro i hi
    refine ⟨true, Ev.step (f := fun _ => some true) (fun k => ?_) (Ev.now _), ?_⟩
    · simp only [spec_AnyOrder.l0]
      rw [if_neg (by omega)]
    · exact ⟨fun _ x h1 h2 => by omega, fun _ => rfl⟩
  | succ d ih =>
    intro i hi
    obtain ⟨res, hr, hres⟩ := ih (i + 1) (by omega)
    have hki := hk i (by omega) (by omega)
    have st := S.st i (by omega) (by omega)
    have hw : wrap64 ((i : Int) + 1) = ((i + 1 : Nat) : Int) := w1 i (by omega)
    have hnext : (∀ x : Nat, i ≤ x → x < n → Rch a b 0 x → Comm a b x) ↔ (Rch a b 0 i → Comm a b i) ∧ ∀ x : Nat, i + 1 ≤ x → x < n → Rch a b 0 x → Comm a b x := by
      constructor
      · intro h
        exact ⟨h i (Nat.le_refl _) (by omega), fun x h1 h2 => h x (by omega) h2⟩
      · rintro ⟨h0, h⟩ x h1 h2 h3
        rcases Nat.lt_or_ge i x with h4 | h4
        · exact h x (by omega) h2 h3
        · obtain rfl : x = i := by omega
          exact h0 h3
    rw [hnext, ← hres]
    by_cases hz : Rch a b 0 i
    · by_cases hg : Comm a b i
      · refine ⟨res, Ev.step (f := fun k => spec_AnyOrder.l0 k s ((i + 1 : Nat) : Int) a b c) (fun k => ?_) hr, ⟨fun h => ⟨fun _ => hg, h⟩, fun h => h.2⟩⟩
        simp only [spec_AnyOrder.l0]
        rw [if_pos (show (i : Int) < s.length by omega), if_pos (show (0 : Int) ≤ i by omega), if_pos (hki.1 hz), if_pos (show (i : Int) < a.length by omega), if_pos st.1.1, if_pos (show rd a i < b.length by omega), if_pos (show (i : Int) < b.length by omega), if_pos st.2.1, if_pos (show rd b i < a.length by omega), if_pos (show rd b (rd a i) = rd a (rd b i) from hg), hw]
      · refine ⟨false, Ev.step (f := fun _ => some false) (fun k => ?_) (Ev.now _), ⟨fun h => absurd h (by simp), fun h => absurd (h.1 hz) hg⟩⟩
        simp only [spec_AnyOrder.l0]
        rw [if_pos (show (i : Int) < s.length by omega), if_pos (show (0 : Int) ≤ i by omega), if_pos (hki.1 hz), if_pos (show (i : Int) < a.length by omega), if_pos st.1.1, if_pos (show rd a i < b.length by omega), if_pos (show (i : Int) < b.length by omega), if_pos st.2.1, if_pos (show rd b i < a.length by omega), if_neg (show ¬ rd b (rd a i) = rd a (rd b i) from hg)]
    · refine ⟨res, Ev.step (f := fun k => spec_AnyOrder.l0 k s ((i + 1 : Nat) : Int) a b c) (fun k => ?_) hr, ⟨fun h => ⟨fun h' => absurd h' hz, h⟩, fun h => h.2⟩⟩
      simp only [spec_AnyOrder.l0]
      rw [if_pos (show (i : Int) < s.length by omega), if_pos (show (0 : Int) ≤ i by omega), hki.2 hz, if_neg (show ¬ (0 : Int) = 1 by omega), hw]

theorem spec_AnyOrder_eq (a b c : List Int) (hl : a.length ≤ 1048577) : ∃ res, Ev (fun k => spec_AnyOrder.f k a b c) res ∧ (res = true ↔ AnyO a b c) := by
  unfold spec_AnyOrder.f
  by_cases h : MachOk a b c
  · obtain ⟨S, hn⟩ := h.steps
    obtain ⟨s, hs, h1, h2⟩ := spec_reached c S hn
    obtain ⟨res, hr, hres⟩ := spec_order_from c S s h1 h2 a.length 0 (by omega)
    refine ⟨res, Ev.bind (spec_MachineOk_eq a b c hl) ?_, ?_⟩
    · rw [decide_eq_true h]
      simp only [if_true]
      exact Ev.bind hs hr
    · rw [hres]
      constructor
      · refine fun h' => ⟨h, fun x hx => ?_⟩
        have hx' := hx.range S (z := 0) ⟨by omega, by omega⟩
        obtain ⟨m, rfl⟩ := Int.eq_ofNat_of_zero_le hx'.1
        exact h' m (by omega) (by omega) hx
      · exact fun h' x _ _ hx => h'.2 x hx
  · refine ⟨false, Ev.bind (spec_MachineOk_eq a b c hl) ?_, ?_⟩
    · rw [decide_eq_false h]
      simp only [Bool.false_eq_true, if_false]
      exact Ev.now _
    · exact ⟨fun h' => absurd h' (by simp), fun h' => absurd h'.1 h⟩
end Go.Proofs.Ytlgdhmjoemdmlaa.Sem
