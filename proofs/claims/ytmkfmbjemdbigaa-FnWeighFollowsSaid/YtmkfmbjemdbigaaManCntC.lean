/- impl.countsFor, its contract. -/
import Derived.Test.YtmkfmbjemdbigaaManCnt
import Derived.Test.YtmkfmbjemdbigaaSemA
import Derived.Test.YtmkfmbjemdbigaaPAx10
namespace Go.Proofs.Ytmkfmbjemdbigaa.ManR
open Go.RowKit Go.Proofs.Ytmkfmbjemdbigaa.PA Go.Proofs.YtmkfmbjemdbigaaW.PrintWords Go.Proofs.YtmkfmbjemdbigaaW.PrintLast Go.Proofs.YtmkfmbjemdbigaaW.PrintMore
set_option linter.unusedVariables false
set_option linter.unusedSimpArgs false

theorem ev_all {α β : Type} {f : α → Nat → Option β} {r : α → β} : ∀ l : List α, (∀ s ∈ l, Ev (f s) (r s)) → ∃ K, ∀ k, K ≤ k → ∀ s ∈ l, f s k = some (r s)
  | [], _ => ⟨0, fun _ _ s hs => absurd hs List.not_mem_nil⟩
  | a :: l, h => by
    obtain ⟨K, hK⟩ := ev_all l (fun s hs => h s (List.mem_cons_of_mem _ hs))
    obtain ⟨M, hM⟩ := h a (List.mem_cons_self ..)
    refine ⟨K + M, fun k hk s hs => ?_⟩
    rcases List.mem_cons.1 hs with rfl | hs
    · exact hM k (by omega)
    · exact hK k (by omega) s hs
theorem so_all (l : List S25) (hw : Man.weighedB l = true) : ∃ kw, ∀ s ∈ l, impl_weighSo.f kw (sumL (cornersI l)) s.f0 s.f1 s.f2 = some (wsB (sumL (cornersI l)) s) := by
  obtain ⟨h6, hok⟩ := weigh_ok hw
  have hc := cornersI_len l (bsF_len l h6).2
  have hl := sumN_len (cornersI l) hc.2 (cornersI l).length (Nat.le_refl _)
  have hb := sumN_bound (cornersI l) hc.2 (cornersI_bound l) (cornersI l).length (Nat.le_refl _)
  obtain ⟨K, hK⟩ := ev_all (f := fun s k => impl_weighSo.f k (sumL (cornersI l)) s.f0 s.f1 s.f2) (r := fun s => wsB (sumL (cornersI l)) s) l (fun s hs => by
    obtain ⟨f, o, t, e0, e1, e2, hf, ho, ht⟩ := Sem.weigh_nat (hok s hs)
    have := Sem.impl_weighSo_eq (sumL (cornersI l)) hl (fun x hx => by have := hb x hx; omega) f o t hf ho ht
    unfold wsB rwS
    rw [e0, e1, e2]
    exact this)
  exact ⟨K, hK K (Nat.le_refl _)⟩
theorem countsFor_calls (A : Option Addr) (c : Nat) (l : List S25) (r1 : List Int) (r2 : Bool) (w : World) (hr : Kd.C k25 w A l.length l) (h : cntF l = some (r1, r2)) :
    Calls Try.prog 33 #[.slice A l.length c] w fun e w' => ∃ v, e = .returned (.tuple #[v, .bool r2]) ∧ Kd.R (Kd.int .i64) 3 w' w.heap.size (fun _ => True) v r1 ∧ Below w.heap.size w w' := by
  unfold cntF at h
  by_cases hw : Man.weighedB l = true
  · rw [if_pos hw] at h
    have h := Option.some.inj h
    obtain ⟨kw, hws⟩ := so_all l hw
    have hc := cornersI_len l (bsF_len l (weigh_ok hw).1).2
    unfold cntA at h
    cases hq : l.any fun s => !(wsB (sumL (cornersI l)) s) with
    | true =>
      rw [hq, if_pos rfl] at h
      injection h with h1 h2
      subst h1; subst h2
      exact countsFor A c l w kw (cornersI l) (wsB (sumL (cornersI l))) hr (by unfold corF; rw [if_pos hw]) hc.2 (cornersI_bound l) hc.1 hws true hq [] rfl
    | false =>
      rw [hq, if_neg (by simp)] at h
      injection h with h1 h2
      subst h1; subst h2
      exact countsFor A c l w kw (cornersI l) (wsB (sumL (cornersI l))) hr (by unfold corF; rw [if_pos hw]) hc.2 (cornersI_bound l) hc.1 hws false hq _ rfl
  · rw [if_neg hw] at h
    cases h
end Go.Proofs.Ytmkfmbjemdbigaa.ManR
