/- Of all and some, WeighFollows is Proved; plain: no condition but that the sentences are of two kinds. -/
import Derived.Test.YtmkfmbjemdbigaaSemWF
import Derived.Test.YtmkfmbjemdbigaaSemA
import Derived.Test.YtmkfmbjemdbigaaManProvedB
namespace Go.Proofs.Ytmkfmbjemdbigaa.Cor
open Go.RowKit Go.Proofs.Ytmkfmbjemdbigaa.PA Go.Proofs.YtmkfmbjemdbigaaW.PrintWords Go.Proofs.YtmkfmbjemdbigaaW.PrintLast Go.Proofs.YtmkfmbjemdbigaaW.PrintMore
set_option linter.unusedVariables false
set_option linter.unusedSimpArgs false
open ManR (lexC sortL cornersI corA rwS bsF addR sumN sumL wsB cntA cntF)
open Go.Proofs.Ytmkfmbjemdbigaa.Sem (conS OkWeigh Sy Oks Pr So wb)

theorem proved_iff {k : Int} {l : List Sy} {s : Sy} (hl : Man.saidB k l = true) (hs : Man.okB k s = true) : (Man.provedB k l s = true ↔ Pr k l s) := by
  unfold Man.provedB
  obtain ⟨hk, h6, hok⟩ := Man.said_of hl
  rw [hl, hs, Bool.true_and, Bool.true_and, decide_eq_true_eq]
  exact (Man.clos_inv hk hok h6).done s
theorem okB_two {s : Sy} (h : OkWeigh s.f0 s.f1 s.f2) (h1 : s.f0 ≤ 1) : Man.okB 2 s = true ∧ Oks (2 : Nat) s := by
  unfold OkWeigh at h
  refine ⟨?_, ?_⟩
  · rw [Sem.okB_ok, decide_eq_true_eq]
    unfold Sem.OkSay
    omega
  · unfold Oks
    omega
theorem wsB_so {n : List Int} (h4 : n.length = 4) (h0 : ∀ y ∈ n, 0 ≤ y) {s : Sy} (hs : Oks (2 : Nat) s) (w : Int) (hw : ∀ i, i < 4 → wb w i = decide (0 < n.getD i 0)) : wsB n s = true ↔ So 2 (wb w) s := by
  rw [← Sem.soB_iff 2 w hs]
  have := Sem.weigh_world h4 h0 s.f0.toNat s.f1.toNat s.f2.toNat (by unfold Oks at hs; omega) w hw
  unfold wsB rwS
  rw [this]
theorem follows_proved {L : List Sy} {s : Sy} (h5 : L.length ≤ 5) (hL : ∀ x ∈ L, OkWeigh x.f0 x.f1 x.f2 ∧ x.f0 ≤ 1) (hs : OkWeigh s.f0 s.f1 s.f2 ∧ s.f0 ≤ 1) : Man.provedB 2 L s = wfR L s.f0 s.f1 s.f2 := by
  have hsaid : Man.saidB 2 L = true := by
    have hB : L.all (Man.okB 2) = true := List.all_eq_true.2 fun x hx => (okB_two (hL x hx).1 (hL x hx).2).1
    unfold Man.saidB
    rw [hB, decide_eq_true (show L.length ≤ 6 by omega)]
    rfl
  have hok : ∀ x ∈ L, Oks (2 : Nat) x := fun x hx => (okB_two (hL x hx).1 (hL x hx).2).2
  have hso := okB_two hs.1 hs.2
  have hp := proved_iff hsaid hso.1
  have hw : Man.weighedB L = true := weighedB_of (by omega) (fun x hx => (hL x hx).1)
  have hcw := con_weighed hw (by omega) hs.1
  have hwf : wfR L s.f0 s.f1 s.f2 = !(cntA (L ++ [conS s.f0 s.f1 s.f2])).2 := by
    unfold wfR
    rw [if_pos ⟨hw, by omega, hs.1⟩]
  have hcn : (cntR (L ++ [conS s.f0 s.f1 s.f2])) = cntA (L ++ [conS s.f0 s.f1 s.f2]) := by
    unfold cntR
    rw [if_pos hcw]
  have hlen : (L ++ [conS s.f0 s.f1 s.f2]).length ≤ 6 := by rw [List.length_append]; simp; omega
  have hneg : ∀ n : List Int, wsB n (conS s.f0 s.f1 s.f2) = !wsB n s := fun n => wsB_con hs.1 n
  rw [hwf]
  by_cases hP : Pr ((2 : Nat) : Int) L s
  · rw [hp.2 hP]
    cases hq : (cntA (L ++ [conS s.f0 s.f1 s.f2])).2 with
    | false => rfl
    | true =>
      exfalso
      obtain ⟨n, hn⟩ : ∃ n, n = sumL (cornersI (L ++ [conS s.f0 s.f1 s.f2])) := ⟨_, rfl⟩
      have hcb := sum_counts hlen
      rw [← hn] at hcb
      obtain ⟨h4, h0⟩ := Sem.counts_bound hcb
      have hall : ∀ x ∈ L ++ [conS s.f0 s.f1 s.f2], wsB n x = true := by
        unfold cntA at hq
        rw [← hn] at hq
        cases ha : (L ++ [conS s.f0 s.f1 s.f2]).any fun s => !(wsB n s) with
        | true =>
          rw [ha, if_pos rfl] at hq
          exact absurd hq (by simp)
        | false =>
          intro x hx
          have := List.any_eq_false.1 ha x hx
          simpa using this
      have hwn := Sem.world_of n h4
      have h00 : ∀ y ∈ n, 0 ≤ y := fun y hy => (h0 y hy).1
      have hsnd := hP.sound hok (wb (Sem.worldN n)) (fun x hx => (wsB_so h4 h00 (hok x hx) _ hwn).1 (hall x (List.mem_append.2 (Or.inl hx))))
      have h1 := (wsB_so h4 h00 hso.2 _ hwn).2 hsnd
      have h2 := hall _ (List.mem_append.2 (Or.inr (List.mem_singleton.2 rfl)))
      rw [hneg, h1] at h2
      exact absurd h2 (by simp)
  · have hpf : Man.provedB 2 L s = false := Bool.eq_false_iff.2 (fun h => hP (hp.1 h))
    rw [hpf]
    obtain ⟨w, _, hall, hno⟩ := Sem.complete hok hso.2 hP
    have hnum := Sem.nums_ok (w : Int)
    have h4 : (Sem.numsOf (w : Int)).length = 4 := rfl
    have h00 : ∀ y ∈ Sem.numsOf (w : Int), 0 ≤ y := fun y hy => (hnum y hy).1
    have hwn := Sem.nums_of (w : Int)
    have hs0 : wsB (Sem.numsOf (w : Int)) s = false := Bool.eq_false_iff.2 (fun h => hno ((wsB_so h4 h00 hso.2 _ hwn).1 h))
    have hsat := sat (L ++ [conS s.f0 s.f1 s.f2]) hlen (Sem.numsOf (w : Int)) h4 h00 (fun x hx => by
      rcases List.mem_append.1 hx with hx | hx
      · exact (wsB_so h4 h00 (hok x hx) _ hwn).2 (hall x hx)
      · rw [List.mem_singleton.1 hx, hneg, hs0]
        rfl)
    have : (cntA (L ++ [conS s.f0 s.f1 s.f2])).2 = true := by
      unfold cntA
      rw [hsat, if_neg (by simp)]
    rw [this]
    rfl
end Go.Proofs.Ytmkfmbjemdbigaa.Cor
