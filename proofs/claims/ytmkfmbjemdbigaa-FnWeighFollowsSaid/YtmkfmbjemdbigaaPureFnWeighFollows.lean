/- The law FnWeighFollows over plain bytes: it answers true, for every two codes; no condition. -/
import Derived.Test.YtmkfmbjemdbigaaSemA
import Derived.Test.YtmkfmbjemdbigaaSemWFP
import Derived.Test.YtmkfmbjemdbigaaPAx33
import Derived.Test.YtmkfmbjemdbigaaPAx4
namespace Go.Proofs.Ytmkfmbjemdbigaa.Cor
open Go.RowKit Go.Proofs.Ytmkfmbjemdbigaa.PA Go.Proofs.YtmkfmbjemdbigaaW.PrintWords Go.Proofs.YtmkfmbjemdbigaaW.PrintLast Go.Proofs.YtmkfmbjemdbigaaW.PrintMore
set_option linter.unusedVariables false
set_option linter.unusedSimpArgs false
open ManR (lexC sortL cornersI corA rwS bsF addR sumN sumL wsB cntA cntF)
open Go.Proofs.Ytmkfmbjemdbigaa.Sem (conS OkWeigh Sy)

theorem so_of {n : List Int} {s : Sy} (hn : Man.countsB n = true) (ho : OkWeigh s.f0 s.f1 s.f2) : Sem.weighSoB n s.f0 s.f1 s.f2 = wsB n s := by
  unfold Sem.weighSoB
  rw [hn, decide_eq_true ho, Bool.true_and, Bool.true_and, ← wsB_eq ho]
/-- What follows is so where the others are. -/
theorem follows_so {L : List Sy} {f o t : Int} {n : List Int} (h : wfR L f o t = true) (hn : Man.countsB n = true) (ha : ∀ s ∈ L, Sem.weighSoB n s.f0 s.f1 s.f2 = true) : Sem.weighSoB n f o t = true := by
  unfold wfR at h
  by_cases hc : Man.weighedB L = true ∧ L.length ≠ 6 ∧ OkWeigh f o t
  · rw [if_pos hc] at h
    obtain ⟨hw, h6, ho⟩ := hc
    obtain ⟨hl, hok⟩ := ManR.weigh_ok hw
    have e := so_of (s := ⟨f, o, t⟩) hn ho
    cases hq : Sem.weighSoB n f o t with
    | true => rfl
    | false =>
      exfalso
      rw [e] at hq
      obtain ⟨h4, h0⟩ := Sem.counts_bound hn
      have hs := sat (L ++ [conS f o t]) (by rw [List.length_append]; simp; omega) n h4 (fun y hy => (h0 y hy).1) (fun s hs => by
        rcases List.mem_append.1 hs with hs | hs
        · rw [← so_of hn (hok s hs)]
          exact ha s hs
        · rw [List.mem_singleton.1 hs, wsB_con ho, hq]
          rfl)
      unfold cntA at h
      rw [hs, if_neg (by simp)] at h
      exact absurd h (by simp)
  · rw [if_neg hc] at h
    exact absurd h (by simp)
theorem draw_half (f o t : Int) (d : Nat) : ∀ (i : Nat) (L : List Sy), L.length ≤ 7 → i + d = L.length → ∃ r, Ev (fun k => spec_DrawWeighFollows.l0 k L (i : Int) f o t) r ∧ r.1.length = L.length := by
  induction d with
  | zero =>
    intro i L hl hi
    refine ⟨(L, Int.tmod f 2, o, t), Sem.ev1 fun k => ?_, rfl⟩
    simp only [spec_DrawWeighFollows.l0]
    rw [if_neg (by omega)]
  | succ d ih =>
    intro i L hl hi
    have hw : wrap64 ((i : Int) + 1) = ((i + 1 : Nat) : Int) := by unfold wrap64; omega
    obtain ⟨r, hr, hlr⟩ := ih (i + 1) (L.set (i : Int).toNat (⟨Int.tmod ((rd_T25 L (i : Int)).f0) 2, (rd_T25 L (i : Int)).f1, (rd_T25 L (i : Int)).f2⟩ : Sy)) (by rw [List.length_set]; exact hl) (by rw [List.length_set]; omega)
    refine ⟨r, hr.step fun k => ?_, by rw [hlr, List.length_set]⟩
    simp only [spec_DrawWeighFollows.l0]
    rw [if_pos (by omega), if_pos (by omega), hw]
theorem drawFollows_ok {l : List Int} (w : ∀ x ∈ l, (Lit.int .u8 x).wf = true) : ∃ L f o t, Ev (fun k => spec_DrawWeighFollows.f k l) (L, f, o, t) ∧ L.length ≤ 4 := by
  obtain ⟨b, hb, hR⟩ := Sem.open_ok w
  obtain ⟨L, p1, e1, h1, hl⟩ := Sem.l20Weighed_len hR (by omega) 4 80 (by omega) (by omega) (by omega)
  obtain ⟨f, o, t, p2, e2, h2⟩ := Sem.l20Weigh_ok h1 (by omega) 40 (by omega)
  obtain ⟨r, er, _, _, _, _⟩ := Sem.pick_ok h2 (by omega) 3 (by omega)
  unfold spec_DrawWeighFollows.f
  simp only [hb, Option.bind_some]
  by_cases c : r = 0
  · obtain ⟨⟨L', f', o', t'⟩, hr, hlr⟩ := draw_half f o t L.length 0 L (by omega) (by omega)
    refine ⟨L', f', o', t', Ev.bind e1 (Ev.bind e2 (Ev.bind (Sem.ev1 er) ?_)), by simp only at hlr; omega⟩
    simp only [if_pos c]
    exact hr
  · refine ⟨L, f, o, t, Ev.bind e1 (Ev.bind e2 (Ev.bind (Sem.ev1 er) ?_)), by omega⟩
    simp only [if_neg c]
    exact Ev.now _
section
variable (L : List Sy) (ok : Bool) (n : List Int) (f o t : Int)
theorem wf_end (x : Bool) (hp : x = true → Man.provedB 2 L ⟨f, o, t⟩ = ok) : Ev (fun k => laws_FnWeighFollows.j3 k L ok x false f o t) true := by
  have hi : impl_Proved.f 2 L f o t = some (Man.provedB 2 L ⟨f, o, t⟩) := rfl
  refine Sem.ev1 fun k => ?_
  simp only [laws_FnWeighFollows.j3, Bool.false_eq_true, if_false, Sem.alive_ok, Option.bind_some]
  cases x with
  | false => simp only [Bool.false_eq_true, if_false]
  | true =>
    rw [hi, hp rfl]
    simp only [if_true, Option.bind_some, beq_self_eq_true]
theorem wf_go (hL : L.length ≤ 7) (d : Nat) : ∀ (i : Nat) (x y : Bool), i + d = L.length →
    (x = true → (∀ s ∈ L.drop i, Sem.weighSoB n s.f0 s.f1 s.f2 = true) → ok = true → Sem.weighSoB n f o t = true) →
    (y = true → (∀ s ∈ L.drop i, OkWeigh s.f0 s.f1 s.f2 ∧ s.f0 ≤ 1) → Man.provedB 2 L ⟨f, o, t⟩ = ok) →
    Ev (fun k => laws_FnWeighFollows.l0 k L ok n x y (i : Int) f o t) true := by
  induction d with
  | zero =>
    intro i x y hi hx hy
    have hnil : L.drop i = [] := List.drop_of_length_le (by omega)
    rw [hnil] at hx hy
    have fin := wf_end L ok f o t y (fun h => hy h (fun s hs => absurd hs List.not_mem_nil))
    cases hok : ok with
    | false =>
      rw [hok] at fin
      refine (fin).step fun k => ?_
      simp only [laws_FnWeighFollows.l0, Bool.false_eq_true, if_false]
      rw [if_neg (by omega)]
    | true =>
      rw [hok] at fin hx
      cases hxx : x with
      | false =>
        refine (fin).step fun k => ?_
        simp only [laws_FnWeighFollows.l0, Bool.false_eq_true, if_false, if_true]
        rw [if_neg (by omega)]
      | true =>
        have hs := Sem.impl_WeighSo_eq n f o t
        rw [hx hxx (fun s hs => absurd hs List.not_mem_nil) rfl] at hs
        have body : Ev (fun k => (impl_WeighSo.f k n f o t).bind fun t451 => (laws_FnWeighFollows.j3 k L true y (!t451) f o t)) true := Ev.bind hs fin
        refine (body).step fun k => ?_
        simp only [laws_FnWeighFollows.l0, if_true]
        rw [if_neg (by omega)]
  | succ d ih =>
    intro i x y hi hx hy
    have hlt : i < L.length := by omega
    have hw : wrap64 ((i : Int) + 1) = ((i + 1 : Nat) : Int) := by unfold wrap64; omega
    rw [List.drop_eq_getElem_cons hlt] at hx hy
    -- the next round, for each value of the two
    have nxt : ∀ x' y' : Bool, (x' = true → x = true ∧ Sem.weighSoB n L[i].f0 L[i].f1 L[i].f2 = true) → (y' = true → y = true ∧ OkWeigh L[i].f0 L[i].f1 L[i].f2 ∧ L[i].f0 ≤ 1) → Ev (fun k => laws_FnWeighFollows.l0 k L ok n x' y' ((i + 1 : Nat) : Int) f o t) true := by
      intro x' y' h1 h2
      refine ih (i + 1) x' y' (by omega) (fun hx' hs hok => ?_) (fun hy' hs => ?_)
      · obtain ⟨a, b⟩ := h1 hx'
        refine hx a (fun s hs' => ?_) hok
        rcases List.mem_cons.1 hs' with rfl | hs'
        · exact b
        · exact hs s hs'
      · obtain ⟨a, b⟩ := h2 hy'
        refine hy a (fun s hs' => ?_)
        rcases List.mem_cons.1 hs' with rfl | hs'
        · exact b
        · exact hs s hs'
    have hso := Sem.impl_WeighSo_eq n L[i].f0 L[i].f1 L[i].f2
    have hwo := Sem.spec_WeighOk_eq L[i].f0 L[i].f1 L[i].f2
    -- what the plain test comes to
    have tail : ∀ x' : Bool, (x' = true → x = true ∧ Sem.weighSoB n L[i].f0 L[i].f1 L[i].f2 = true) → Ev (fun k => (if y = true then ((spec_WeighOk.f L[i].f0 L[i].f1 L[i].f2).bind fun t446 => (if t446 = true then (laws_FnWeighFollows.l0 k L ok n x' (decide (L[i].f0 ≤ 1)) ((i + 1 : Nat) : Int) f o t) else (laws_FnWeighFollows.l0 k L ok n x' false ((i + 1 : Nat) : Int) f o t))) else (laws_FnWeighFollows.l0 k L ok n x' false ((i + 1 : Nat) : Int) f o t))) true := by
      intro x' hx'
      rw [hwo]
      simp only [Option.bind_some]
      cases hyy : y with
      | false =>
        simp only [Bool.false_eq_true, if_false]
        exact nxt x' false hx' (fun h => absurd h (by simp))
      | true =>
        simp only [if_true]
        by_cases c : OkWeigh L[i].f0 L[i].f1 L[i].f2
        · rw [decide_eq_true c]
          simp only [if_true]
          exact nxt x' _ hx' (fun h => ⟨hyy, c, of_decide_eq_true h⟩)
        · rw [decide_eq_false c]
          simp only [Bool.false_eq_true, if_false]
          exact nxt x' false hx' (fun h => absurd h (by simp))
    cases hxx : x with
    | true =>
      have body : Ev (fun k => (impl_WeighSo.f k n L[i].f0 L[i].f1 L[i].f2).bind fun t444 => (if y = true then ((spec_WeighOk.f L[i].f0 L[i].f1 L[i].f2).bind fun t446 => (if t446 = true then (laws_FnWeighFollows.l0 k L ok n t444 (decide (L[i].f0 ≤ 1)) ((i + 1 : Nat) : Int) f o t) else (laws_FnWeighFollows.l0 k L ok n t444 false ((i + 1 : Nat) : Int) f o t))) else (laws_FnWeighFollows.l0 k L ok n t444 false ((i + 1 : Nat) : Int) f o t))) true := Ev.bind hso (tail _ (fun h => ⟨hxx, h⟩))
      refine (body).step fun k => ?_
      simp only [laws_FnWeighFollows.l0, if_true]
      rw [if_pos (by omega), if_pos (by omega), rdT_get L i hlt, hw]
    | false =>
      have body := tail false (fun h => absurd h (by simp))
      refine (body).step fun k => ?_
      simp only [laws_FnWeighFollows.l0, Bool.false_eq_true, if_false]
      rw [if_pos (show (i : Int) < (L.length : Int) by omega), rdT_get L i hlt, hw]
      simp only [if_pos (show (0 : Int) ≤ (i : Int) by omega)]
end
end Go.Proofs.Ytmkfmbjemdbigaa.Cor
namespace Go.Proofs.Ytmkfmbjemdbigaa.Pure
open Go.RowKit Go.Proofs.Ytmkfmbjemdbigaa.PA Go.Proofs.YtmkfmbjemdbigaaW.PrintWords Go.Proofs.YtmkfmbjemdbigaaW.PrintLast Go.Proofs.YtmkfmbjemdbigaaW.PrintMore
set_option linter.unusedVariables false
set_option linter.unusedSimpArgs false
theorem FnWeighFollows (l0 : List Int) (b0 : l0.length ≤ 9223372036854775807) (w0 : ∀ x ∈ l0, (Lit.int .u8 x).wf = true) (l1 : List Int) (b1 : l1.length ≤ 9223372036854775807) (w1 : ∀ x ∈ l1, (Lit.int .u8 x).wf = true) : ∃ k, laws_FnWeighFollows.f k l0 l1 = some true := by
  refine Ev.rounds (g := fun k => laws_FnWeighFollows.f k l0 l1) ?_
  have long : Ev (fun k => laws_FnWeighFollows.j0 k l0 l1 true) true := Sem.ev1 (fun k => by simp only [laws_FnWeighFollows.j0, if_true])
  unfold laws_FnWeighFollows.f
  by_cases hl : (l0.length : Int) > 1048576
  · simp only [if_pos hl]
    exact long
  · simp only [if_neg hl]
    by_cases hl1 : (l1.length : Int) > 1048576
    · rw [decide_eq_true hl1]
      exact long
    · rw [decide_eq_false hl1]
      obtain ⟨L, f, o, t, hd, hL⟩ := Cor.drawFollows_ok w0
      obtain ⟨n, f2, o2, t2, hdw, hn5, _⟩ := Sem.drawWeighSo_ok l1 w1
      refine Ev.step (fun k => by simp only [laws_FnWeighFollows.j0, Bool.false_eq_true, if_false]; rfl) (Ev.bind hd ?_)
      simp only [Cor.impl_wf, Option.bind_some]
      refine Ev.bind (Cor.weighFollows_ev L f o t (by omega)) ?_
      simp only [bne_self_eq_false, Bool.false_eq_true, if_false]
      refine Ev.bind hdw (Ev.bind (Sem.spec_CountsOk_eq n (by omega)) ?_)
      have go : ∀ y : Bool, (y = true → Sem.OkWeigh f o t ∧ f ≤ 1) → Ev (fun k => laws_FnWeighFollows.j1 k L (Cor.wfR L f o t) n (Man.countsB n) y f o t) true := by
        intro y hy
        have := Cor.wf_go L (Cor.wfR L f o t) n f o t (by omega) L.length 0 (Man.countsB n) y (by omega) (fun hx hs hok => Cor.follows_so hok hx hs) (fun h hs => Cor.follows_proved (s := ⟨f, o, t⟩) (by omega) hs (hy h))
        refine Ev.step (fun k => ?_) this
        simp only [laws_FnWeighFollows.j1]
        rfl
      simp only [Sem.spec_WeighOk_eq, Option.bind_some]
      by_cases c : Sem.OkWeigh f o t
      · rw [decide_eq_true c]
        simp only [if_true]
        exact go _ (fun h => ⟨c, of_decide_eq_true h⟩)
      · rw [decide_eq_false c]
        simp only [Bool.false_eq_true, if_false]
        exact go false (fun h => absurd h (by simp))
end Go.Proofs.Ytmkfmbjemdbigaa.Pure
