/- Reading texts of sentences, in plain words: the one sentence whose text it is; no condition. -/
import Derived.Test.YtainbbpmaengjaaSemText
import Derived.Test.YtainbbpmaengjaaPAx14
import Derived.Test.YtainbbpmaengjaaPAx15
namespace Go.Proofs.Ytainbbpmaengjaa.Sem
open Go.RowKit Go.Proofs.Ytainbbpmaengjaa.PA Go.Proofs.YtainbbpmaengjaaW.PrintWords Go.Proofs.YtainbbpmaengjaaW.PrintLast Go.Proofs.YtainbbpmaengjaaW.PrintMore
set_option linter.unusedVariables false
set_option linter.unusedSimpArgs false

/-- A sentence whose text it is: f, o, t. -/
def Reads (k : Int) (s : ByteArray) (f o t : Nat) : Prop := OkSay k f o t ∧ (textB f o t).toList = s.toList

theorem toList_data (b : ByteArray) : b.toList = b.data.toList := ByteArray.toList_eq b

theorem textB_toList (f o t : Nat) : (textB f o t).toList = textL f o t := by
  rw [toList_data]; unfold textB; simp

theorem reads_one {k : Int} {s : ByteArray} {f o t f' o' t' : Nat} (h : Reads k s f o t) (h' : Reads k s f' o' t') : f = f' ∧ o = o' ∧ t = t' := by
  obtain ⟨h1, h2⟩ := h
  obtain ⟨h1', h2'⟩ := h'
  have e : textL f o t = textL f' o' t' := by rw [← textB_toList, ← textB_toList, h2, h2']
  unfold OkSay at h1 h1'
  exact text_inj (by omega) (by omega) (by omega) (by omega) (by omega) (by omega) e

instance (k : Int) (s : ByteArray) (f o t : Nat) : Decidable (Reads k s f o t) := by unfold Reads; infer_instance

/-- A search over places: at the first place that reads, its sentence; else what stands behind the last. -/
theorem search {α : Type} (g : Nat → Nat → Option α) (M : Nat → Prop) (hit : Nat → α) (N : Nat) (r : α)
    (step : ∀ p, p < N → ¬ M p → Ev (g (p + 1)) r → Ev (g p) r) (found : ∀ p, p < N → M p → Ev (g p) (hit p))
    (all : ∀ q, q < N → M q → hit q = r) (fin : (∀ q, q < N → ¬ M q) → Ev (g N) r) : Ev (g 0) r := by
  have key : ∀ n p, p + n = N → (∀ q, q < p → ¬ M q) → Ev (g p) r := by
    intro n
    induction n with
    | zero =>
      intro p hp hno
      obtain rfl : p = N := by omega
      exact fin hno
    | succ n ih =>
      intro p hp hno
      by_cases h : M p
      · have := found p (by omega) h
        rw [all p (by omega) h] at this
        exact this
      · exact step p (by omega) h (ih (p + 1) (by omega) fun q hq => by
          by_cases e : q = p
          · subst e; exact h
          · exact hno q (by omega))
  exact key N 0 (by omega) (fun q hq => by omega)

def IsRead (k : Int) (s : ByteArray) (r : Int × Int × Int × Bool) : Prop :=
  (∀ f o t : Nat, Reads k s f o t → r = ((f : Int), (o : Int), (t : Int), true)) ∧ ((∀ f o t : Nat, ¬ Reads k s f o t) → r = (0, 0, 0, false))

theorem spec_txt (k : Int) (s : ByteArray) (f o t : Nat) : ∃ x, spec_SayText.f k f o t = some x ∧ (x.toList = s.toList ∧ s.toList ≠ [] ↔ Reads k s f o t) := by
  by_cases h : OkSay k f o t
  · obtain ⟨k', f', o', t', rfl, e1, e2, e3, _⟩ := ok_nat4 h
    refine ⟨textB f o t, spec_SayText_ok k' f o t h, fun e => ⟨h, e.1⟩, fun e => ⟨e.2, ?_⟩⟩
    rw [← e.2, textB_toList]
    exact text_ne
  · refine ⟨⟨#[]⟩, spec_SayText_no k f o t h, fun e => absurd e.1.symm ?_, fun e => absurd e.1 h⟩
    rw [toList_data ⟨#[]⟩]
    exact e.2

theorem spec_read (k : Int) (s : ByteArray) (r : Int × Int × Int × Bool) (hr : IsRead k s r) : Ev (fun q => spec_ReadSay.f q k s) r := by
  have h0 : Ev (fun q => spec_ReadSay.l2 q k s 0 0 0) r := by
    have h : Ev (fun q => if 0 < 72 then spec_ReadSay.l2 q k s ((0 / 36 : Nat) : Int) ((0 / 6 % 6 : Nat) : Int) ((0 % 6 : Nat) : Int) else spec_ReadSay.l0 q k s 2) r := by
     refine search (fun p q => if p < 72 then spec_ReadSay.l2 q k s ((p / 36 : Nat) : Int) ((p / 6 % 6 : Nat) : Int) ((p % 6 : Nat) : Int) else spec_ReadSay.l0 q k s 2) (fun p => Reads k s (p / 36) (p / 6 % 6) (p % 6)) (fun p => (((p / 36 : Nat) : Int), ((p / 6 % 6 : Nat) : Int), ((p % 6 : Nat) : Int), true)) 72 r ?_ ?_ ?_ ?_
     · intro p hp hno hnext
       simp only [if_pos hp]
       obtain ⟨x, hx, hiff⟩ := spec_txt k s (p / 36) (p / 6 % 6) (p % 6)
       -- one step on, in the row
       refine Ev.step (f := fun q => spec_ReadSay.l2 q k s ((p / 36 : Nat) : Int) ((p / 6 % 6 : Nat) : Int) ((p % 6 + 1 : Nat) : Int)) (fun q => ?_) ?_
       · have hw : wrap64 (((p % 6 : Nat) : Int) + 1) = ((p % 6 + 1 : Nat) : Int) := by rw [w64 (by omega) (by omega)]; omega
         simp only [spec_ReadSay.l2]
         rw [if_pos (by omega), hw]
         by_cases he : s.toList = []
         · rw [if_pos he]
         · rw [if_neg he, hx, Option.bind_some, if_neg (fun e => hno (hiff.1 ⟨e, he⟩))]
       · by_cases ht : p % 6 + 1 < 6
         · simp only [if_pos (show p + 1 < 72 by omega), show (p + 1) / 36 = p / 36 by omega, show (p + 1) / 6 % 6 = p / 6 % 6 by omega, show (p + 1) % 6 = p % 6 + 1 by omega] at hnext
           exact hnext
         · refine Ev.step (f := fun q => spec_ReadSay.l1 q k s ((p / 36 : Nat) : Int) ((p / 6 % 6 + 1 : Nat) : Int)) (fun q => ?_) ?_
           · have hw : wrap64 (((p / 6 % 6 : Nat) : Int) + 1) = ((p / 6 % 6 + 1 : Nat) : Int) := by rw [w64 (by omega) (by omega)]; omega
             simp only [spec_ReadSay.l2]
             rw [if_neg (by omega), hw]
           · by_cases ho : p / 6 % 6 + 1 < 6
             · simp only [if_pos (show p + 1 < 72 by omega), show (p + 1) / 36 = p / 36 by omega, show (p + 1) / 6 % 6 = p / 6 % 6 + 1 by omega, show (p + 1) % 6 = 0 by omega] at hnext
               refine Ev.step (fun q => ?_) hnext
               simp only [spec_ReadSay.l1]
               rw [if_pos (by omega)]
               rfl
             · refine Ev.step (f := fun q => spec_ReadSay.l0 q k s ((p / 36 + 1 : Nat) : Int)) (fun q => ?_) ?_
               · have hw : wrap64 (((p / 36 : Nat) : Int) + 1) = ((p / 36 + 1 : Nat) : Int) := by rw [w64 (by omega) (by omega)]; omega
                 simp only [spec_ReadSay.l1]
                 rw [if_neg (by omega), hw]
               · by_cases hf : p / 36 + 1 < 2
                 · simp only [if_pos (show p + 1 < 72 by omega), show (p + 1) / 36 = p / 36 + 1 by omega, show (p + 1) / 6 % 6 = 0 by omega, show (p + 1) % 6 = 0 by omega] at hnext
                   refine Ev.step (f := fun q => spec_ReadSay.l1 q k s ((p / 36 + 1 : Nat) : Int) 0) (fun q => ?_) (Ev.step (fun q => ?_) hnext)
                   · simp only [spec_ReadSay.l0]
                     rw [if_pos (by omega)]
                   · simp only [spec_ReadSay.l1]
                     rw [if_pos (by omega)]
                     rfl
                 · simp only [if_neg (show ¬ p + 1 < 72 by omega)] at hnext
                   rw [show p / 36 + 1 = 2 by omega]
                   exact hnext
     · intro p hp hyes
       simp only [if_pos hp]
       obtain ⟨x, hx, hiff⟩ := spec_txt k s (p / 36) (p / 6 % 6) (p % 6)
       obtain ⟨e1, e2⟩ := hiff.2 hyes
       refine Ev.step (f := fun _ => some (((p / 36 : Nat) : Int), ((p / 6 % 6 : Nat) : Int), ((p % 6 : Nat) : Int), true)) (fun q => ?_) (Ev.now _)
       simp only [spec_ReadSay.l2]
       rw [if_pos (by omega), if_neg e2, hx, Option.bind_some, if_pos e1]
     · intro p hp hyes
       exact (hr.1 _ _ _ hyes).symm
     · intro hno
       have : r = (0, 0, 0, false) := hr.2 (fun f o t h => by
         have hb := h.1
         unfold OkSay at hb
         refine hno (36 * f + 6 * o + t) (by omega) ?_
         rw [show (36 * f + 6 * o + t) / 36 = f by omega, show (36 * f + 6 * o + t) / 6 % 6 = o by omega, show (36 * f + 6 * o + t) % 6 = t by omega]
         exact h)
       subst this
       simp only [if_neg (show ¬ 72 < 72 by omega)]
       refine Ev.step (f := fun _ => some (0, 0, 0, false)) (fun q => ?_) (Ev.now _)
       simp only [spec_ReadSay.l0]
       rw [if_neg (by omega)]
    simpa using h
  unfold spec_ReadSay.f
  refine Ev.step (f := fun q => spec_ReadSay.l1 q k s 0 0) (fun q => ?_) (Ev.step (fun q => ?_) h0)
  · simp only [spec_ReadSay.l0]
    rw [if_pos (by omega)]
  · simp only [spec_ReadSay.l1]
    rw [if_pos (by omega)]

theorem impl_read_n (k : Int) (n : Nat) (hkn : 2 * k = n) (hn : n = 2 ∨ n = 4 ∨ n = 6) (s : ByteArray) (r : Int × Int × Int × Bool) (hr : IsRead k s r) :
    Ev (fun q => impl_ReadSay.l0 q k s (n : Int) 0) r := by
  have hwk : wrap64 (2 * k) = (n : Int) := by rw [hkn]; exact w64 (by omega) (by omega)
  have h0 : Ev (fun q => impl_ReadSay.l2 q k s 0 0 0 (n : Int) 0 (n : Int) 0) r := by
    have h : Ev (fun q => if 0 < 2 * n * n then impl_ReadSay.l2 q k s ((0 / (2 * n) : Nat) : Int) ((0 / 2 % n : Nat) : Int) ((0 % 2 : Nat) : Int) (n : Int) ((0 / (2 * n) : Nat) : Int) (n : Int) ((0 / 2 % n : Nat) : Int) else impl_ReadSay.l0 q k s (n : Int) (n : Int)) r := by
     refine search (fun p q => if p < 2 * n * n then impl_ReadSay.l2 q k s ((p / (2 * n) : Nat) : Int) ((p / 2 % n : Nat) : Int) ((p % 2 : Nat) : Int) (n : Int) ((p / (2 * n) : Nat) : Int) (n : Int) ((p / 2 % n : Nat) : Int) else impl_ReadSay.l0 q k s (n : Int) (n : Int)) (fun p => Reads k s (p % 2) (p / (2 * n)) (p / 2 % n)) (fun p => (((p % 2 : Nat) : Int), ((p / (2 * n) : Nat) : Int), ((p / 2 % n : Nat) : Int), true)) (2 * n * n) r ?_ ?_ ?_ ?_
     · intro p hp hno hnext
       simp only [if_pos hp]
       have b1 : p / (2 * n) < n := by rcases hn with rfl | rfl | rfl <;> omega
       have z1 : (0 : Int) ≤ ((p / (2 * n) : Nat) : Int) := Int.natCast_nonneg _
       have z2 : (0 : Int) ≤ ((p / 2 % n : Nat) : Int) := Int.natCast_nonneg _
       have b2 : p / 2 % n < n := by rcases hn with rfl | rfl | rfl <;> omega
       have hx := impl_sayText_eq (p % 2) (p / (2 * n)) (p / 2 % n) (by omega) (by omega) (by omega)
       have hok : OkSay k ((p % 2 : Nat) : Int) ((p / (2 * n) : Nat) : Int) ((p / 2 % n : Nat) : Int) := by unfold OkSay; omega
       refine Ev.step (f := fun q => impl_ReadSay.l2 q k s ((p / (2 * n) : Nat) : Int) ((p / 2 % n : Nat) : Int) ((p % 2 + 1 : Nat) : Int) (n : Int) ((p / (2 * n) : Nat) : Int) (n : Int) ((p / 2 % n : Nat) : Int)) (fun q => ?_) ?_
       · have hw : wrap64 (((p % 2 : Nat) : Int) + 1) = ((p % 2 + 1 : Nat) : Int) := by rw [w64 (by omega) (by omega)]; omega
         simp only [impl_ReadSay.l2]
         rw [if_pos (by omega), hx, Option.bind_some, if_neg (fun e => hno ⟨hok, e⟩), hw]
       · by_cases hf : p % 2 + 1 < 2
         · simp only [if_pos (show p + 1 < 2 * n * n by rcases hn with rfl | rfl | rfl <;> omega), show (p + 1) / (2 * n) = p / (2 * n) by (rcases hn with rfl | rfl | rfl <;> omega), show (p + 1) / 2 % n = p / 2 % n by (rcases hn with rfl | rfl | rfl <;> omega), show (p + 1) % 2 = p % 2 + 1 by omega] at hnext
           exact hnext
         · refine Ev.step (f := fun q => impl_ReadSay.l1 q k s ((p / (2 * n) : Nat) : Int) (n : Int) ((p / (2 * n) : Nat) : Int) (n : Int) ((p / 2 % n + 1 : Nat) : Int)) (fun q => ?_) ?_
           · have hw : wrap64 (((p / 2 % n : Nat) : Int) + 1) = ((p / 2 % n + 1 : Nat) : Int) := by rw [w64 (by omega) (by omega)]; omega
             simp only [impl_ReadSay.l2]
             rw [if_neg (by omega), hw]
           · by_cases ht : p / 2 % n + 1 < n
             · simp only [if_pos (show p + 1 < 2 * n * n by rcases hn with rfl | rfl | rfl <;> omega), show (p + 1) / (2 * n) = p / (2 * n) by (rcases hn with rfl | rfl | rfl <;> omega), show (p + 1) / 2 % n = p / 2 % n + 1 by (rcases hn with rfl | rfl | rfl <;> omega), show (p + 1) % 2 = 0 by omega] at hnext
               refine Ev.step (fun q => ?_) hnext
               simp only [impl_ReadSay.l1]
               rw [if_pos (by omega)]
               rfl
             · refine Ev.step (f := fun q => impl_ReadSay.l0 q k s (n : Int) ((p / (2 * n) + 1 : Nat) : Int)) (fun q => ?_) ?_
               · have hw : wrap64 (((p / (2 * n) : Nat) : Int) + 1) = ((p / (2 * n) + 1 : Nat) : Int) := by rw [w64 (by omega) (by omega)]; omega
                 simp only [impl_ReadSay.l1]
                 rw [if_neg (by omega), hw]
               · by_cases ho : p / (2 * n) + 1 < n
                 · simp only [if_pos (show p + 1 < 2 * n * n by rcases hn with rfl | rfl | rfl <;> omega), show (p + 1) / (2 * n) = p / (2 * n) + 1 by (rcases hn with rfl | rfl | rfl <;> omega), show (p + 1) / 2 % n = 0 by (rcases hn with rfl | rfl | rfl <;> omega), show (p + 1) % 2 = 0 by omega] at hnext
                   refine Ev.step (f := fun q => impl_ReadSay.l1 q k s ((p / (2 * n) + 1 : Nat) : Int) (n : Int) ((p / (2 * n) + 1 : Nat) : Int) (n : Int) 0) (fun q => ?_) (Ev.step (fun q => ?_) hnext)
                   · simp only [impl_ReadSay.l0]
                     rw [if_pos (by omega), hwk]
                   · simp only [impl_ReadSay.l1]
                     rw [if_pos (by omega)]
                     rfl
                 · simp only [if_neg (show ¬ p + 1 < 2 * n * n by rcases hn with rfl | rfl | rfl <;> omega)] at hnext
                   rw [show p / (2 * n) + 1 = n by omega]
                   exact hnext
     · intro p hp hyes
       simp only [if_pos hp]
       have b1 : p / (2 * n) < n := by rcases hn with rfl | rfl | rfl <;> omega
       have z1 : (0 : Int) ≤ ((p / (2 * n) : Nat) : Int) := Int.natCast_nonneg _
       have z2 : (0 : Int) ≤ ((p / 2 % n : Nat) : Int) := Int.natCast_nonneg _
       have b2 : p / 2 % n < n := by rcases hn with rfl | rfl | rfl <;> omega
       have hx := impl_sayText_eq (p % 2) (p / (2 * n)) (p / 2 % n) (by omega) (by omega) (by omega)
       refine Ev.step (f := fun _ => some (((p % 2 : Nat) : Int), ((p / (2 * n) : Nat) : Int), ((p / 2 % n : Nat) : Int), true)) (fun q => ?_) (Ev.now _)
       simp only [impl_ReadSay.l2]
       rw [if_pos (by omega), hx, Option.bind_some, if_pos hyes.2]
     · intro p hp hyes
       exact (hr.1 _ _ _ hyes).symm
     · intro hno
       have : r = (0, 0, 0, false) := hr.2 (fun f o t h => by
         have hb := h.1
         unfold OkSay at hb
         have hb1 : f < 2 := by omega
         have hb2 : o < n := by omega
         have hb3 : t < n := by omega
         refine hno (2 * n * o + 2 * t + f) (by rcases hn with rfl | rfl | rfl <;> omega) ?_
         rw [show (2 * n * o + 2 * t + f) / (2 * n) = o by (rcases hn with rfl | rfl | rfl <;> omega), show (2 * n * o + 2 * t + f) / 2 % n = t by (rcases hn with rfl | rfl | rfl <;> omega), show (2 * n * o + 2 * t + f) % 2 = f by (rcases hn with rfl | rfl | rfl <;> omega)]
         exact h)
       subst this
       simp only [if_neg (show ¬ 2 * n * n < 2 * n * n by omega)]
       refine Ev.step (f := fun _ => some (0, 0, 0, false)) (fun q => ?_) (Ev.now _)
       simp only [impl_ReadSay.l0]
       rw [if_neg (by omega)]
    have hpos : 0 < 2 * n * n := by rcases hn with rfl | rfl | rfl <;> omega
    simpa [hpos] using h
  refine Ev.step (f := fun q => impl_ReadSay.l1 q k s 0 (n : Int) 0 (n : Int) 0) (fun q => ?_) (Ev.step (fun q => ?_) h0)
  · simp only [impl_ReadSay.l0]
    rw [if_pos (by omega), hwk]
  · simp only [impl_ReadSay.l1]
    rw [if_pos (by omega)]

theorem impl_read (k : Int) (s : ByteArray) (r : Int × Int × Int × Bool) (hr : IsRead k s r) : Ev (fun q => impl_ReadSay.f q k s) r := by
  unfold impl_ReadSay.f
  have no : ¬ (1 ≤ k ∧ k ≤ 3) → r = (0, 0, 0, false) := fun h => hr.2 (fun f o t e => by have := e.1; unfold OkSay at this; omega)
  by_cases h1 : k < 1
  · simp only [if_pos h1]
    rw [no (by omega)]
    exact ev1 (fun q => by simp [impl_ReadSay.j0])
  · simp only [if_neg h1]
    by_cases h3 : k > 3
    · rw [no (by omega), decide_eq_true h3]
      exact ev1 (fun q => by simp [impl_ReadSay.j0])
    · rw [decide_eq_false h3]
      obtain ⟨n, hn⟩ := Int.eq_ofNat_of_zero_le (show 0 ≤ 2 * k by omega)
      have hwk : wrap64 (2 * k) = (n : Int) := by rw [hn]; exact w64 (by omega) (by omega)
      refine Ev.step (fun q => ?_) (impl_read_n k n hn (by omega) s r hr)
      simp only [impl_ReadSay.j0, Bool.false_eq_true, if_false, hwk]

/-- There is always just one answer. -/
theorem isRead_some (k : Int) (s : ByteArray) : ∃ r, IsRead k s r := by
  by_cases h : ∃ f o t : Nat, Reads k s f o t
  · obtain ⟨f, o, t, h⟩ := h
    refine ⟨((f : Int), (o : Int), (t : Int), true), fun f' o' t' h' => ?_, fun hn => absurd h (hn f o t)⟩
    obtain ⟨rfl, rfl, rfl⟩ := reads_one h h'
    rfl
  · exact ⟨(0, 0, 0, false), fun f o t h' => absurd ⟨f, o, t, h'⟩ h, fun _ => rfl⟩
end Go.Proofs.Ytainbbpmaengjaa.Sem
