/- Draws of rows of sentences: each comes to an end, with at most seven; no condition but the reader's own shape. -/
import Derived.Test.YthnmllkhlinnaaaSemDrawSay
import Derived.Test.YthnmllkhlinnaaaPAx19
namespace Go.Proofs.Ythnmllkhlinnaaa.Sem
open Go.RowKit Go.Proofs.Ythnmllkhlinnaaa.PA Go.Proofs.YthnmllkhlinnaaaW.PrintWords Go.Proofs.YthnmllkhlinnaaaW.PrintLast Go.Proofs.YthnmllkhlinnaaaW.PrintMore
set_option linter.unusedVariables false
set_option linter.unusedSimpArgs false

theorem l20Said_from (n k : Int) (hn0 : 0 ≤ n) (hn : n ≤ 1000) (k0 : 0 ≤ k) (k4 : k ≤ 4) (b : List Int) (j : Nat) : ∀ (l : List S29) (p m : Int), Rd b p m → m + 5 * j + 1 ≤ 1000000 → l.length + j ≤ 7 →
    ∃ l' p', Ev (fun q => spec_l20Said.l0 q n k l (j : Int) b p) (k, l', p') ∧ Rd b p' (m + 5 * j + 1) ∧ l'.length ≤ 7 := by
  induction j with
  | zero =>
    intro l p m h hm hl
    obtain ⟨r, p', e, h'⟩ := odd_ok h (by omega) n (by omega)
    cases r with
    | true =>
      refine ⟨List.replicate 7 z29, p', ?_, h'.more (by omega) (by omega), by rw [List.length_replicate]; omega⟩
      refine Ev.step (f := fun q => (spec_l20Rd_odd.f q b p n).bind fun bt => (if bt.1 = true then (if 7 ≤ 11728124029610 then (some (k, (List.replicate 7 z29), bt.2)) else (none)) else (some (k, l, bt.2)))) (fun q => ?_) (Ev.bind (ev1 e) ?_)
      · simp only [spec_l20Said.l0]
        rw [if_neg (by omega)]
      · exact Ev.now _
    | false =>
      refine ⟨l, p', ?_, h'.more (by omega) (by omega), by omega⟩
      refine Ev.step (f := fun q => (spec_l20Rd_odd.f q b p n).bind fun bt => (if bt.1 = true then (if 7 ≤ 11728124029610 then (some (k, (List.replicate 7 z29), bt.2)) else (none)) else (some (k, l, bt.2)))) (fun q => ?_) (Ev.bind (ev1 e) ?_)
      · simp only [spec_l20Said.l0]
        rw [if_neg (by omega)]
      · exact Ev.now _
  | succ j ih =>
    intro l p m h hm hl
    have hw : wrap64 (n * 4) = n * 4 := w64 (by omega) (by omega)
    have hj : wrap64 (((j + 1 : Nat) : Int) - 1) = (j : Int) := by rw [w64 (by omega) (by omega)]; omega
    obtain ⟨f, o, t, p', es, h'⟩ := l20Say_ok h (by omega) k k0 k4 (n * 4) (by omega)
    obtain ⟨l', p'', e', h'', hl'⟩ := ih (l ++ [(⟨f, o, t⟩ : S29)]) p' (m + 5) h' (by omega) (by rw [List.length_append]; simp; omega)
    refine ⟨l', p'', ?_, h''.more (by omega) (by omega), hl'⟩
    refine Ev.step (f := fun q => (spec_l20Say.f q b p k (n * 4)).bind fun bt => (if l.length < 5864062014805 then (spec_l20Said.l0 q n k (l ++ [(⟨bt.1, bt.2.1, bt.2.2.1⟩ : S29)]) (j : Int) b bt.2.2.2) else (none))) (fun q => ?_) (Ev.bind es ?_)
    · simp only [spec_l20Said.l0]
      rw [if_pos (by omega), hw, hj]
    · simp only [if_pos (show l.length < 5864062014805 by omega)]
      exact e'

theorem l20Said_ok {b : List Int} {p m : Int} (h : Rd b p m) (hm : m + 30 ≤ 1000000) (n : Int) (hn0 : 0 ≤ n) (hn : n ≤ 1000) :
    ∃ k l p', Ev (fun q => spec_l20Said.f q b p n) (k, l, p') ∧ Rd b p' (m + 30) ∧ l.length ≤ 7 ∧ 0 ≤ k ∧ k ≤ 4 := by
  unfold spec_l20Said.f
  obtain ⟨k, p1, ek, hk, k0, k4⟩ := l20Kinds_ok h (by omega) n (by omega)
  obtain ⟨r, er, l2, u2, _, h2⟩ := pick_ok hk (by omega) 5 (by omega)
  have u2 := u2 (by omega)
  obtain ⟨j, rfl⟩ := Int.eq_ofNat_of_zero_le l2
  obtain ⟨l', p', e', h', hl'⟩ := l20Said_from n k hn0 hn k0 k4 b j [] (p1 + 1) (m + 2 + 1) h2 (by omega) (by simp; omega)
  exact ⟨k, l', p', Ev.bind ek (Ev.bind (ev1 er) e'), h'.more (by omega) (by omega), hl', k0, k4⟩
end Go.Proofs.Ythnmllkhlinnaaa.Sem
