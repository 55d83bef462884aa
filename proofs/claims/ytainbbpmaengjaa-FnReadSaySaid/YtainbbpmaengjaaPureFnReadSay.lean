/- The law FnReadSay over plain bytes: it answers true, for every code; no condition. -/
import Derived.Test.YtainbbpmaengjaaSemDrawSay
import Derived.Test.YtainbbpmaengjaaSemRead
import Derived.Test.YtainbbpmaengjaaPAx38
import Derived.Test.YtainbbpmaengjaaPAx37
namespace Go.Proofs.Ytainbbpmaengjaa.Sem
open Go.RowKit Go.Proofs.Ytainbbpmaengjaa.PA Go.Proofs.YtainbbpmaengjaaW.PrintWords Go.Proofs.YtainbbpmaengjaaW.PrintLast Go.Proofs.YtainbbpmaengjaaW.PrintMore
set_option linter.unusedVariables false
set_option linter.unusedSimpArgs false

theorem len_all : (triples.all fun x => decide ((textL x.1 x.2.1 x.2.2).length ≤ 40)) = true := by kernel_rfl
theorem textB_size {f o t : Nat} (hf : f < 2) (ho : o < 6) (ht : t < 6) : (textB f o t).size ≤ 40 := by
  have := List.all_eq_true.1 len_all _ (mem_triples hf ho ht)
  simpa [textB, ByteArray.size] using this

theorem sayText_size (k f o t : Int) : ∃ x, spec_SayText.f k f o t = some x ∧ x.size ≤ 40 := by
  by_cases h : OkSay k f o t
  · obtain ⟨k', f', o', t', rfl, rfl, rfl, rfl, _, _, _, _, _⟩ := ok_nat4 h
    exact ⟨_, spec_SayText_ok _ _ _ _ h, textB_size (by omega) (by omega) (by omega)⟩
  · exact ⟨_, spec_SayText_no _ _ _ _ h, by decide⟩

theorem last_of (f o t : Nat) : (textL f o t).getLast? = some (UInt8.ofNat (97 + t / 2)) := by
  unfold textL termL
  rw [List.getLast?_append]
  simp

theorem no_space {k : Int} {s : ByteArray} {f o t f' o' t' : Nat} (h : Reads k s f o t) : ¬ Reads k (s ++ (⟨#[32]⟩ : ByteArray)) f' o' t' := by
  intro h'
  have e : (s ++ (⟨#[32]⟩ : ByteArray)).toList = s.toList ++ [32] := by
    rw [toList_data, toList_data, ByteArray.data_append]
    simp
  have e' := h'.2
  rw [e, textB_toList] at e'
  have g := last_of f' o' t'
  rw [e', List.getLast?_append] at g
  have hb := h'.1
  unfold OkSay at hb
  have : t' < 6 := by omega
  have ht : t' = 0 ∨ t' = 1 ∨ t' = 2 ∨ t' = 3 ∨ t' = 4 ∨ t' = 5 := by omega
  rcases ht with rfl | rfl | rfl | rfl | rfl | rfl <;> simp at g <;> revert g <;> decide

theorem rdOf_size (i : Int) (h : 0 ≤ i) (h4 : i < 4) : (rdOf ByteArray.empty [(⟨#[]⟩ : ByteArray), (⟨#[99]⟩ : ByteArray), (⟨#[32]⟩ : ByteArray), (⟨#[110, 111, 110, 45]⟩ : ByteArray)] i).size ≤ 4 := by
  have : i = 0 ∨ i = 1 ∨ i = 2 ∨ i = 3 := by omega
  rcases this with rfl | rfl | rfl | rfl <;> decide

theorem drawReadSay_ok (l0 : List Int) (w0 : ∀ x ∈ l0, (Lit.int .u8 x).wf = true) : ∃ k s, Ev (fun q => spec_DrawReadSay.f q l0) (k, s) ∧ s.size ≤ 100 := by
  obtain ⟨b, eo, hb⟩ := open_ok w0
  obtain ⟨k, p, ek, hk, k0, k4⟩ := l20Kinds_ok hb (by omega) 14 (by omega)
  obtain ⟨f, o, t, p', es, h2⟩ := l20Say_ok hk (by omega) k k0 k4 0 (by omega)
  obtain ⟨x, ex, hx⟩ := sayText_size k f o t
  obtain ⟨r3, e3, l3, u3, _, h3⟩ := pick_ok h2 (by omega) 3 (by omega)
  have plain : Ev (fun q => spec_DrawReadSay.j0 q k x false b (p' + 1)) (k, x) := ev1 (fun q => by simp only [spec_DrawReadSay.j0, Bool.false_eq_true, if_false])
  have whole : ∀ y, Ev (fun q => if r3 = 0 then (spec_DrawReadSay.j0 q k x (decide ((x.size : Int) > 0)) b (p' + 1)) else (spec_DrawReadSay.j0 q k x false b (p' + 1))) y → Ev (fun q => spec_DrawReadSay.f q l0) y := by
    intro y hy
    unfold spec_DrawReadSay.f
    simp only [eo, Option.bind_some]
    refine Ev.bind ek (Ev.bind es ?_)
    simp only [ex, Option.bind_some]
    exact Ev.bind (ev1 e3) hy
  by_cases c0 : r3 = 0
  · by_cases cs : (x.size : Int) > 0
    · obtain ⟨r4, e4, l4, u4, _, h4⟩ := pick_ok h3 (by omega) (x.size : Int) (by omega)
      have u4 := u4 (by omega)
      obtain ⟨r5, e5, l5, u5, _, h5⟩ := pick_ok h4 (by omega) 4 (by omega)
      have u5 := u5 (by omega)
      have hw : wrap64 (r4 + 1) = r4 + 1 := w64 (by omega) (by omega)
      have hy := rdOf_size r5 l5 u5
      have hA : (x.extract 0 r4.toNat).size ≤ 40 := by rw [ByteArray.size_extract]; omega
      have hB : (x.extract (r4 + 1).toNat x.size).size ≤ 40 := by rw [ByteArray.size_extract]; omega
      have hAB : ((x.extract 0 r4.toNat) ++ (rdOf ByteArray.empty [(⟨#[]⟩ : ByteArray), (⟨#[99]⟩ : ByteArray), (⟨#[32]⟩ : ByteArray), (⟨#[110, 111, 110, 45]⟩ : ByteArray)] r5)).size ≤ 44 := by rw [ByteArray.size_append]; omega
      refine ⟨k, ((x.extract 0 r4.toNat) ++ (rdOf ByteArray.empty [(⟨#[]⟩ : ByteArray), (⟨#[99]⟩ : ByteArray), (⟨#[32]⟩ : ByteArray), (⟨#[110, 111, 110, 45]⟩ : ByteArray)] r5)) ++ (x.extract (r4 + 1).toNat x.size), whole _ ?_, by rw [ByteArray.size_append]; omega⟩
      simp only [if_pos c0, decide_eq_true cs]
      refine Ev.step (fun q => ?_) (Ev.bind (g := fun q => spec_l20Rd_pick.f q b (p' + 1) (x.size : Int)) (f := fun q bt => (spec_l20Rd_pick.f q b bt.2 4).bind fun bt' => some (k, ((x.extract 0 r4.toNat) ++ (rdOf ByteArray.empty [(⟨#[]⟩ : ByteArray), (⟨#[99]⟩ : ByteArray), (⟨#[32]⟩ : ByteArray), (⟨#[110, 111, 110, 45]⟩ : ByteArray)] r5)) ++ (x.extract (r4 + 1).toNat x.size))) (ev1 e4) (Ev.bind (ev1 e5) (Ev.now _)))
      simp only [spec_DrawReadSay.j0, if_true]
      cases q with
      | zero => simp [spec_l20Rd_pick.f, spec_l20Rd_pick.j0]
      | succ q =>
        simp only [e4 q, e5 q, Option.bind_some]
        rw [if_pos l4, if_pos (by omega), if_pos l5, if_pos (by simpa using u5), if_pos (by omega), hw, if_pos (by omega), if_pos (by omega), if_pos (by omega)]
    · refine ⟨k, x, whole _ ?_, by omega⟩
      simp only [if_pos c0, decide_eq_false cs]
      exact plain
  · refine ⟨k, x, whole _ ?_, by omega⟩
    simp only [if_neg c0]
    exact plain
end Go.Proofs.Ytainbbpmaengjaa.Sem
namespace Go.Proofs.Ytainbbpmaengjaa.Pure
open Go.RowKit Go.Proofs.Ytainbbpmaengjaa.PA Go.Proofs.YtainbbpmaengjaaW.PrintWords Go.Proofs.YtainbbpmaengjaaW.PrintLast
set_option linter.unusedVariables false
set_option linter.unusedSimpArgs false
theorem FnReadSay (l0 : List Int) (b0 : l0.length ≤ 9223372036854775807) (w0 : ∀ x ∈ l0, (Lit.int .u8 x).wf = true) : ∃ k, laws_FnReadSay.f k l0 = some true := by
  refine Ev.rounds (g := fun k => laws_FnReadSay.f k l0) ?_
  unfold laws_FnReadSay.f
  by_cases hl : (l0.length : Int) > 1048576
  · simp only [if_pos hl]
    exact Ev.now _
  · simp only [if_neg hl]
    obtain ⟨k, s, hd, hsz⟩ := Sem.drawReadSay_ok l0 w0
    by_cases hex : ∃ f o t : Nat, Sem.Reads k s f o t
    · obtain ⟨f, o, t, h⟩ := hex
      have hr : Sem.IsRead k s ((f : Int), (o : Int), (t : Int), true) := by
        refine ⟨fun f o t h' => ?_, fun hn => absurd h (hn f o t)⟩
        obtain ⟨rfl, rfl, rfl⟩ := Sem.reads_one h h'
        rfl
      have hr2 : Sem.IsRead k (s ++ (⟨#[32]⟩ : ByteArray)) (0, 0, 0, false) := ⟨fun f' o' t' h' => absurd h' (Sem.no_space h), fun _ => rfl⟩
      refine Ev.bind hd (Ev.bind (Sem.impl_read k s _ hr) (Ev.bind (Sem.spec_read k s _ hr) ?_))
      simp only [beq_self_eq_true, Bool.not_true, Bool.or_self, Bool.false_eq_true, if_false, bne_self_eq_false]
      refine Ev.step (f := fun q => (impl_ReadSay.f q k (s ++ (⟨#[32]⟩ : ByteArray))).bind fun bt415 => ((impl_SayText.f k f o t).bind fun t420 => (if t420.toList = s.toList then (some (!bt415.2.2.2)) else (some false)))) (fun q => ?_) (Ev.bind (Sem.impl_read k _ _ hr2) ?_)
      · simp only [laws_FnReadSay.j0, Bool.false_eq_true, if_false, if_true]
        rw [if_pos (by omega)]
      · obtain ⟨k', f', o', t', rfl, e1, e2, e3, _⟩ := Sem.ok_nat4 h.1
        simp only [Sem.impl_SayText_ok k' f o t h.1, Option.bind_some, if_pos h.2, Bool.not_false]
        exact Ev.now _
    · have hr : Sem.IsRead k s (0, 0, 0, false) := ⟨fun f o t h' => absurd ⟨f, o, t, h'⟩ hex, fun _ => rfl⟩
      refine Ev.bind hd (Ev.bind (Sem.impl_read k s _ hr) (Ev.bind (Sem.spec_read k s _ hr) ?_))
      simp only [beq_self_eq_true, Bool.not_true, Bool.or_self, Bool.false_eq_true, if_false, bne_self_eq_false]
      refine Sem.ev1 (fun q => ?_)
      simp only [laws_FnReadSay.j0, Bool.false_eq_true, if_false, beq_self_eq_true, Bool.and_self, if_true, Sem.alive_ok, Option.bind_some]
end Go.Proofs.Ytainbbpmaengjaa.Pure
