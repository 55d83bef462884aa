/- Texts of sentences, in plain words; for sentences that are allowed. -/
import Derived.KernelRfl
import Derived.Test.YtainbbpmaengjaaSemSay
import Derived.Test.YtainbbpmaengjaaPAx5
import Derived.Test.YtainbbpmaengjaaPAx6
namespace Go.Proofs.Ytainbbpmaengjaa.Sem
open Go.RowKit Go.Proofs.Ytainbbpmaengjaa.PA Go.Proofs.YtainbbpmaengjaaW.PrintWords Go.Proofs.YtainbbpmaengjaaW.PrintLast Go.Proofs.YtainbbpmaengjaaW.PrintMore
set_option linter.unusedVariables false
set_option linter.unusedSimpArgs false

def bytesL (s : List Nat) : List UInt8 := s.map (fun n => UInt8.ofNat n)
def termL (t : Nat) : List UInt8 := (if t % 2 = 1 then bytesL [110, 111, 110, 45] else []) ++ [UInt8.ofNat (97 + t / 2)]
def textL (f o t : Nat) : List UInt8 := (if f = 1 then bytesL [115, 111, 109, 101] else bytesL [97, 108, 108]) ++ bytesL [32] ++ termL o ++ bytesL [32, 97, 114, 101, 32] ++ termL t
def textB (f o t : Nat) : ByteArray := ⟨(textL f o t).toArray⟩

theorem impl_all : ((List.range 2).all fun f => (List.range 6).all fun o => (List.range 6).all fun t => decide (impl_sayText.f f o t = some (textB f o t))) = true := by kernel_rfl
theorem spec_all : ((List.range 4).all fun k => (List.range 2).all fun f => (List.range 6).all fun o => (List.range 6).all fun t => !decide (OkSay k f o t) || decide (spec_SayText.f k f o t = some (textB f o t))) = true := by kernel_rfl

theorem impl_sayText_eq (f o t : Nat) (hf : f < 2) (ho : o < 6) (ht : t < 6) : impl_sayText.f f o t = some (textB f o t) :=
  of_decide_eq_true (List.all_eq_true.1 (List.all_eq_true.1 (List.all_eq_true.1 impl_all f (List.mem_range.2 hf)) o (List.mem_range.2 ho)) t (List.mem_range.2 ht))

theorem ok_nat4 {k f o t : Int} (h : OkSay k f o t) : ∃ k' f' o' t' : Nat, k = k' ∧ f = f' ∧ o = o' ∧ t = t' ∧ 1 ≤ k' ∧ k' ≤ 3 ∧ f' < 2 ∧ o' < 2 * k' ∧ t' < 2 * k' := by
  unfold OkSay at h
  exact ⟨k.toNat, f.toNat, o.toNat, t.toNat, by omega, by omega, by omega, by omega, by omega, by omega, by omega, by omega, by omega⟩

theorem spec_SayText_ok (k f o t : Nat) (h : OkSay k f o t) : spec_SayText.f k f o t = some (textB f o t) := by
  have h' := h
  unfold OkSay at h'
  have := List.all_eq_true.1 (List.all_eq_true.1 (List.all_eq_true.1 (List.all_eq_true.1 spec_all k (List.mem_range.2 (by omega))) f (List.mem_range.2 (by omega))) o (List.mem_range.2 (by omega))) t (List.mem_range.2 (by omega))
  simpa [h] using this

theorem spec_SayText_no (k f o t : Int) (h : ¬ OkSay k f o t) : spec_SayText.f k f o t = some ⟨#[]⟩ := by
  unfold spec_SayText.f
  rw [spec_SayOk_eq, decide_eq_false h]
  rfl

theorem impl_SayText_no (k f o t : Int) (h : ¬ OkSay k f o t) : impl_SayText.f k f o t = some ⟨#[]⟩ := by
  unfold impl_SayText.f
  rw [impl_isSay_eq, decide_eq_false h]
  rfl

theorem impl_SayText_ok (k f o t : Nat) (h : OkSay k f o t) : impl_SayText.f k f o t = some (textB f o t) := by
  have h' := h
  unfold OkSay at h'
  unfold impl_SayText.f
  rw [impl_isSay_eq, decide_eq_true h]
  simp only [Option.bind_some, if_true]
  rw [impl_sayText_eq f o t (by omega) (by omega) (by omega)]
  rfl

/-- What SayText of both programs answers. -/
theorem sayText_both (k f o t : Int) : ∃ x, spec_SayText.f k f o t = some x ∧ impl_SayText.f k f o t = some x := by
  by_cases h : OkSay k f o t
  · obtain ⟨k', f', o', t', rfl, rfl, rfl, rfl, _⟩ := ok_nat4 h
    exact ⟨_, spec_SayText_ok _ _ _ _ h, impl_SayText_ok _ _ _ _ h⟩
  · exact ⟨_, spec_SayText_no _ _ _ _ h, impl_SayText_no _ _ _ _ h⟩

/-- All texts, by their place: twice six times six. -/
def triples : List (Nat × Nat × Nat) := (List.range 2).flatMap fun f => (List.range 6).flatMap fun o => (List.range 6).map fun t => (f, o, t)
theorem mem_triples {f o t : Nat} (hf : f < 2) (ho : o < 6) (ht : t < 6) : (f, o, t) ∈ triples := by
  unfold triples
  rw [List.mem_flatMap]
  refine ⟨f, List.mem_range.2 hf, List.mem_flatMap.2 ⟨o, List.mem_range.2 ho, List.mem_map.2 ⟨t, List.mem_range.2 ht, rfl⟩⟩⟩
theorem nodup_all : (triples.all fun x => triples.all fun y => !decide (textL x.1 x.2.1 x.2.2 = textL y.1 y.2.1 y.2.2) || decide (x = y)) = true := by kernel_rfl
theorem text_inj {f o t f' o' t' : Nat} (hf : f < 2) (ho : o < 6) (ht : t < 6) (hf' : f' < 2) (ho' : o' < 6) (ht' : t' < 6) (h : textL f o t = textL f' o' t') : f = f' ∧ o = o' ∧ t = t' := by
  have := List.all_eq_true.1 (List.all_eq_true.1 nodup_all _ (mem_triples hf ho ht)) _ (mem_triples hf' ho' ht')
  simp [h] at this
  exact this
theorem text_ne {f o t : Nat} : textL f o t ≠ [] := by
  unfold textL termL
  simp
end Go.Proofs.Ytainbbpmaengjaa.Sem
