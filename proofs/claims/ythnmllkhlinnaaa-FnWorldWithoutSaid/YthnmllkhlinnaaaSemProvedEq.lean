/- Proved and ProvedMany of the reference, in plain words; no condition but a row's length. -/
import Derived.Test.YthnmllkhlinnaaaManProvedB
import Derived.Test.YthnmllkhlinnaaaSemSpecAll
import Derived.Test.YthnmllkhlinnaaaSemSaid
import Derived.Test.YthnmllkhlinnaaaPAx6
import Derived.Test.YthnmllkhlinnaaaPAx12
namespace Go.Proofs.Ythnmllkhlinnaaa.Sem
open Go.RowKit Go.Proofs.Ythnmllkhlinnaaa.PA Go.Proofs.YthnmllkhlinnaaaW.PrintWords Go.Proofs.YthnmllkhlinnaaaW.PrintLast Go.Proofs.YthnmllkhlinnaaaW.PrintMore
set_option linter.unusedVariables false
set_option linter.unusedSimpArgs false

theorem find_from (out : List Sy) (s : Sy) (ho : out.length ≤ 78) (d : Nat) : ∀ i, i + d = out.length → Ev (fun q => spec_Proved.l0 q out (i : Int) s.f0 s.f1 s.f2) (decide (s ∈ out.drop i)) := by
  induction d with
  | zero =>
    intro i hi
    rw [List.drop_of_length_le (by omega)]
    refine Ev.step (f := fun _ => some (decide (s ∈ ([] : List Sy)))) (fun q => ?_) (Ev.now _)
    simp only [spec_Proved.l0]
    rw [if_neg (by omega)]
    simp
  | succ d ih =>
    intro i hi
    have hlt : i < out.length := by omega
    rw [List.drop_eq_getElem_cons hlt]
    by_cases h : out[i] = s
    · rw [decide_eq_true (show s ∈ out[i] :: out.drop (i + 1) by rw [h]; exact List.mem_cons_self)]
      refine Ev.step (f := fun _ => some true) (fun q => ?_) (Ev.now _)
      simp only [spec_Proved.l0]
      rw [if_pos (by omega), if_pos (by omega), rdS out i hlt, eq3, decide_eq_true h, if_pos rfl]
    · rw [decide_eq_decide.2 (show s ∈ out[i] :: out.drop (i + 1) ↔ s ∈ out.drop (i + 1) from ⟨fun h' => (List.mem_cons.1 h').resolve_left (fun e => h e.symm), fun h' => List.mem_cons_of_mem _ h'⟩)]
      refine Ev.step (f := fun q => spec_Proved.l0 q out ((i + 1 : Nat) : Int) s.f0 s.f1 s.f2) (fun q => ?_) (ih (i + 1) (by omega))
      simp only [spec_Proved.l0]
      rw [if_pos (by omega), if_pos (by omega), rdS out i hlt, eq3, decide_eq_false h, if_neg (by simp), w1 i (by omega)]

theorem spec_Proved_eq (k : Int) (l : List Sy) (hl : l.length ≤ 1048576) (s : Sy) : Ev (fun q => spec_Proved.f q k l s.f0 s.f1 s.f2) (Man.provedB k l s) := by
  unfold spec_Proved.f Man.provedB
  refine Ev.bind (spec_SaidOk_eq k l hl) ?_
  cases hb : Man.saidB k l with
  | false =>
    simp only [Bool.false_eq_true, if_false, Bool.false_and]
    exact ev1 (fun q => by simp only [spec_Proved.j0, if_true])
  | true =>
    simp only [if_true, Bool.true_and, spec_SayOk_eq, Option.bind_some]
    rw [← okB_ok]
    cases hs : Man.okB k s with
    | false =>
      simp only [Bool.not_false, Bool.false_and]
      exact ev1 (fun q => by simp only [spec_Proved.j0, if_true])
    | true =>
      simp only [Bool.not_true, Bool.true_and]
      obtain ⟨hk, h6, hok⟩ := Man.said_of hb
      obtain ⟨out, ho, m, n⟩ := closed_eq hk hok h6
      refine Ev.step (f := fun q => (spec_l5Closed.f q k l).bind fun t => spec_Proved.l0 q t 0 s.f0 s.f1 s.f2) (fun q => by simp only [spec_Proved.j0, Bool.false_eq_true, if_false]) (Ev.bind ho ?_)
      have h := find_from out s n out.length 0 (by omega)
      rw [List.drop_zero] at h
      have e : decide (s ∈ out) = decide (s ∈ Man.clos k l) := decide_eq_decide.2 ((m s).trans ((Man.clos_inv hk hok h6).done s).symm)
      rw [← e]
      exact h

/-! ### how many -/
theorem fresh_in (out : List Sy) (i : Nat) (hi : i < out.length) (ho : out.length ≤ 78) (n : Int) (r : Int) (d : Nat) : ∀ (j : Nat) (b : Bool), j + d = i → b = decide (out[i] ∉ out.take j) →
    Ev (fun q => if decide (out[i] ∉ out.take i) = true then spec_ProvedMany.l0 q out (wrap64 (n + 1)) (wrap64 ((i : Int) + 1)) else spec_ProvedMany.l0 q out n (wrap64 ((i : Int) + 1))) r →
    Ev (fun q => spec_ProvedMany.l1 q out n (i : Int) b (j : Int)) r := by
  induction d with
  | zero =>
    intro j b hj hb h
    obtain rfl : j = i := by omega
    refine Ev.step (f := fun q => if decide (out[j] ∉ out.take j) = true then spec_ProvedMany.l0 q out (wrap64 (n + 1)) (wrap64 ((j : Int) + 1)) else spec_ProvedMany.l0 q out n (wrap64 ((j : Int) + 1))) (fun q => ?_) h
    simp only [spec_ProvedMany.l1]
    rw [if_neg (by omega), hb]
  | succ d ih =>
    intro j b hj hb h
    have hlt : j < out.length := by omega
    have ht : out.take (j + 1) = out.take j ++ [out[j]] := List.take_succ_eq_append_getElem hlt
    cases b with
    | true =>
      have hb' := of_decide_eq_true hb.symm
      refine Ev.step (f := fun q => spec_ProvedMany.l1 q out n (i : Int) (!decide (out[j] = out[i])) ((j + 1 : Nat) : Int)) (fun q => ?_) (ih (j + 1) _ (by omega) ?_ h)
      · simp only [spec_ProvedMany.l1]
        rw [if_pos (by omega), if_pos True.intro, if_pos (by omega), if_pos (by omega), if_pos (by omega), if_pos (by omega), rdS out j hlt, rdS out i hi, w1 j (by omega), ← eq3]
        simp only [Bool.not_and]
      · rw [ht, ← decide_not]
        refine decide_eq_decide.2 ⟨fun h' hm => ?_, fun h' e => h' ?_⟩
        · rcases List.mem_append.1 hm with hm | hm
          · exact hb' hm
          · exact h' (List.mem_singleton.1 hm).symm
        · rw [e]
          exact List.mem_append_right _ (List.mem_singleton.2 rfl)
    | false =>
      have hb' := of_decide_eq_false hb.symm
      refine Ev.step (f := fun q => spec_ProvedMany.l1 q out n (i : Int) false ((j + 1 : Nat) : Int)) (fun q => ?_) (ih (j + 1) _ (by omega) ?_ h)
      · simp only [spec_ProvedMany.l1]
        rw [if_pos (by omega), if_neg (by simp), w1 j (by omega)]
      · rw [ht]
        refine (decide_eq_false (fun h' => hb' (fun hm => h' (List.mem_append_left _ hm)))).symm

theorem addAll_snoc (F : List Sy) (s : Sy) (l : List Sy) : addAll l (F ++ [s]) = addS (addAll l F) s := by unfold addAll; rw [List.foldl_append]; rfl
theorem addAll_nodup : ∀ (F l : List Sy), l.Nodup → (addAll l F).Nodup
  | [], _, h => h
  | s :: F, l, h => by
    refine addAll_nodup F (addS l s) ?_
    unfold addS
    split
    · exact h
    · rename_i hn
      rw [List.nodup_append]
      exact ⟨h, by simp, fun p hp q hq => by rw [List.mem_singleton.1 hq]; exact fun e => hn (e ▸ hp)⟩

theorem many_from (out : List Sy) (ho : out.length ≤ 78) (d : Nat) : ∀ i, i + d = out.length → Ev (fun q => spec_ProvedMany.l0 q out ((addAll [] (out.take i)).length : Int) (i : Int)) ((addAll [] out).length : Int) := by
  induction d with
  | zero =>
    intro i hi
    rw [List.take_of_length_le (by omega)]
    refine Ev.step (f := fun _ => some ((addAll [] out).length : Int)) (fun q => ?_) (Ev.now _)
    simp only [spec_ProvedMany.l0]
    rw [if_neg (by omega)]
  | succ d ih =>
    intro i hi
    have hlt : i < out.length := by omega
    have ih := ih (i + 1) (by omega)
    have hle : (addAll [] (out.take i)).length ≤ i := by
      have := nodup_le (addAll [] (out.take i)) (out.take i) (addAll_nodup _ _ List.nodup_nil) (fun x hx => by simpa [mem_addAll] using hx)
      rw [List.length_take] at this
      omega
    have hm : ∀ x, x ∈ addAll [] (out.take i) ↔ x ∈ out.take i := fun x => by simp [mem_addAll]
    rw [List.take_succ_eq_append_getElem hlt, addAll_snoc] at ih
    refine Ev.step (f := fun q => spec_ProvedMany.l1 q out ((addAll [] (out.take i)).length : Int) (i : Int) true ((0 : Nat) : Int)) (fun q => ?_) (fresh_in out i hlt ho _ _ i 0 true (by omega) (by simp) ?_)
    · simp only [spec_ProvedMany.l0]
      rw [if_pos (by omega)]
      rfl
    · by_cases h : out[i] ∈ out.take i
      · rw [decide_eq_false (by simpa using h)]
        simp only [Bool.false_eq_true, if_false]
        rw [addS, if_pos ((hm _).2 h)] at ih
        rw [w1 i (by omega)]
        exact ih
      · rw [decide_eq_true h]
        simp only [if_true]
        rw [addS, if_neg (fun h' => h ((hm _).1 h')), List.length_append, List.length_singleton] at ih
        rw [w1 i (by omega), w1 _ (by omega)]
        exact ih

theorem spec_ProvedMany_eq (k : Int) (l : List Sy) (hl : l.length ≤ 1048576) : Ev (fun q => spec_ProvedMany.f q k l) (Man.manyB k l) := by
  unfold spec_ProvedMany.f Man.manyB
  refine Ev.bind (spec_SaidOk_eq k l hl) ?_
  cases hb : Man.saidB k l with
  | false =>
    simp only [Bool.false_eq_true, if_false]
    exact Ev.now _
  | true =>
    simp only [if_true]
    obtain ⟨hk, h6, hok⟩ := Man.said_of hb
    obtain ⟨out, ho, m, n⟩ := closed_eq hk hok h6
    refine Ev.bind ho ?_
    rw [Man.manyN_eq hk hok h6 (K := addAll [] out) (addAll_nodup _ _ List.nodup_nil) (fun s => by rw [mem_addAll, ← m s]; simp)]
    have h := many_from out n out.length 0 (by omega)
    exact h
end Go.Proofs.Ythnmllkhlinnaaa.Sem
