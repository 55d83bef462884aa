/- The law FnSayText over plain bytes: it answers true, for every code; no condition. -/
import Derived.Test.YtainbbpmaengjaaSemDrawSay
import Derived.Test.YtainbbpmaengjaaSemRead
import Derived.Test.YtainbbpmaengjaaPAx36
import Derived.Test.YtainbbpmaengjaaPAx35
namespace Go.Proofs.Ytainbbpmaengjaa.Pure
open Go.RowKit Go.Proofs.Ytainbbpmaengjaa.PA Go.Proofs.YtainbbpmaengjaaW.PrintWords Go.Proofs.YtainbbpmaengjaaW.PrintLast
set_option linter.unusedVariables false
set_option linter.unusedSimpArgs false
theorem FnSayText (l0 : List Int) (b0 : l0.length ≤ 9223372036854775807) (w0 : ∀ x ∈ l0, (Lit.int .u8 x).wf = true) : ∃ k, laws_FnSayText.f k l0 = some true := by
  refine Ev.rounds (g := fun k => laws_FnSayText.f k l0) ?_
  unfold laws_FnSayText.f
  by_cases hl : (l0.length : Int) > 1048576
  · simp only [if_pos hl]
    exact Ev.now _
  · simp only [if_neg hl]
    obtain ⟨b, eo, hb⟩ := Sem.open_ok w0
    obtain ⟨k, p, ek, hk, k0, k4⟩ := Sem.l20Kinds_ok hb (by omega) 9 (by omega)
    obtain ⟨f, o, t, p', es, _⟩ := Sem.l20Say_ok hk (by omega) k k0 k4 6 (by omega)
    have hd : Ev (fun q => spec_DrawSayText.f q l0) (k, f, o, t) := by
      unfold spec_DrawSayText.f
      simp only [eo, Option.bind_some]
      exact Ev.bind ek (Ev.bind es (Ev.now _))
    refine Ev.bind hd ?_
    by_cases h : Sem.OkSay k f o t
    · obtain ⟨k', f', o', t', rfl, rfl, rfl, rfl, _⟩ := Sem.ok_nat4 h
      have hne : ¬ (Sem.textB f' o' t').toList = ([] : List UInt8) := by rw [Sem.textB_toList]; exact Sem.text_ne
      have hr : Sem.IsRead k' (Sem.textB f' o' t') ((f' : Int), (o' : Int), (t' : Int), true) := by
        refine ⟨fun f o t h' => ?_, fun hn => absurd ⟨h, rfl⟩ (hn f' o' t')⟩
        obtain ⟨rfl, rfl, rfl⟩ := Sem.reads_one ⟨h, rfl⟩ h'
        rfl
      simp only [Sem.spec_SayText_ok _ _ _ _ h, Sem.impl_SayText_ok _ _ _ _ h, Option.bind_some, if_true, if_neg hne]
      refine Ev.bind (Sem.impl_read k' _ _ hr) ?_
      simp only [if_true, beq_self_eq_true, Bool.and_self]
      exact Ev.now _
    · have he : (⟨#[]⟩ : ByteArray).toList = ([] : List UInt8) := by rw [Sem.toList_data]
      simp only [Sem.spec_SayText_no _ _ _ _ h, Sem.impl_SayText_no _ _ _ _ h, Option.bind_some, if_true, he, Sem.impl_SayOk_eq, decide_eq_false h, Bool.false_eq_true, if_false, Sem.alive_ok]
      exact Ev.now _
end Go.Proofs.Ytainbbpmaengjaa.Pure
