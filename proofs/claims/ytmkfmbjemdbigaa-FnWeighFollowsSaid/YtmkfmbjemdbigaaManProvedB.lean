/- impl.Proved and impl.ProvedMany, by hand: whether a sentence is proved, and how many are; no condition. -/
import Derived.Test.YtmkfmbjemdbigaaManProved
import Derived.Test.YtmkfmbjemdbigaaSemA
namespace Go.Proofs.Ytmkfmbjemdbigaa.Man
open Go.RowKit Go.Proofs.Ytmkfmbjemdbigaa.PA Go.Proofs.YtmkfmbjemdbigaaW.PrintWords Go.Proofs.YtmkfmbjemdbigaaW.PrintLast Go.Proofs.YtmkfmbjemdbigaaW.PrintMore
set_option linter.unusedVariables false
set_option linter.unusedSimpArgs false
set_option maxRecDepth 100000
open Go.Maps

/-- The row that grows till it is closed (a way to reckon it: what is to be done lies with its end first). -/
def run (k : Int) : Nat → List Sem.Sy → List Sem.Sy → List Sem.Sy
  | 0, K, _ => K
  | _ + 1, K, [] => K
  | n + 1, K, s :: R => if s ∈ K then run k n K R else run k n (K ++ [s]) ((Sem.fresh k (K ++ [s]) s).reverse ++ R)
def clos (k : Int) (l : List Sem.Sy) : List Sem.Sy := run k 7400 [] (l ++ refls (2 * k).toNat).reverse
/-- What Proved answers. -/
def provedB (k : Int) (l : List Sem.Sy) (s : Sem.Sy) : Bool := saidB k l && (okB k s && decide (s ∈ clos k l))
theorem run_inv {k : Int} (hk : 1 ≤ k ∧ k ≤ 3) {L : List Sem.Sy} (hL : ∀ s ∈ L, Sem.Oks k s) : ∀ (n : Nat) (K R : List Sem.Sy), Sem.Inv k L K R.reverse → mes K R.reverse < n → Sem.Inv k L (run k n K R) []
  | 0, _, _, _, hm => absurd hm (by omega)
  | n + 1, K, [], h, _ => by
    rw [List.reverse_nil] at h
    exact h
  | n + 1, K, s :: R, h, hm => by
    rw [List.reverse_cons] at h hm
    rw [run]
    split
    · rename_i hs
      have h' := h.old hs
      exact run_inv hk hL n K R h' (by have := (aux3 (Nat.le_refl _) : mes K R.reverse + 1 ≤ mes K (R.reverse ++ [s]) ∧ _).1; omega)
    · rename_i hs
      have h' := h.newF hL hs
      have hf := h'.few hk hL
      have e : ((Sem.fresh k (K ++ [s]) s).reverse ++ R).reverse = R.reverse ++ Sem.fresh k (K ++ [s]) s := by rw [List.reverse_append, List.reverse_reverse]
      rw [← e] at h'
      refine run_inv hk hL n _ _ h' ?_
      rw [e]
      have := aux4 (N := Sem.fresh k (K ++ [s]) s) (Nat.le_refl (mes K (R.reverse ++ [s]))) hf (Sem.fresh_length k hk _ _)
      omega
theorem clos_inv {k : Int} (hk : 1 ≤ k ∧ k ≤ 3) {L : List Sem.Sy} (hL : ∀ s ∈ L, Sem.Oks k s) (h6 : L.length ≤ 6) : Sem.Inv k L (clos k L) [] := by
  unfold clos
  refine run_inv hk hL _ _ _ ?_ ?_
  · rw [List.reverse_reverse]
    exact Sem.Inv.start (fun s => mem_refls k (by omega) s)
  · rw [List.reverse_reverse]
    unfold mes
    rw [List.length_append, refls_length, List.length_nil]
    omega
theorem oks_of {k : Int} {x : Sem.Sy} (h : okB k x = true) : Sem.Oks k x := by
  rw [Sem.okB_ok, decide_eq_true_eq] at h
  unfold Sem.OkSay at h
  unfold Sem.Oks
  omega
theorem said_of {k : Int} {l : List Sem.Sy} (h : saidB k l = true) : (1 ≤ k ∧ k ≤ 3) ∧ l.length ≤ 6 ∧ ∀ s ∈ l, Sem.Oks k s := by
  unfold saidB at h
  simp only [Bool.and_eq_true, decide_eq_true_eq] at h
  exact ⟨h.1.1, h.1.2, fun s hs => oks_of (List.all_eq_true.1 h.2 s hs)⟩

section
variable {w : World} {ops : Array Oper} {rest : List Oper} {o : Oper} {a : Act} {Q : Exit → Act → World → Prop}
end

set_option maxHeartbeats 4000000 in
theorem Proved (k : Int) (A : Option Addr) (c : Nat) (l : List Sem.Sy) (s : Sem.Sy) (w : World) (hr : Kd.C k25 w A l.length l) :
    Calls Try.prog 11 #[.int .i64 k, .slice A l.length c, .agg #[.int .i64 s.f0, .int .i64 s.f1, .int .i64 s.f2]] w fun e w' => e = .returned (.bool (provedB k l s)) ∧ Below w.heap.size w w' := by
  have HB := Aside0.mk (Below.refl w.heap.size w)
  have HR := Aside0.mk hr
  clear hr
  have HA := Aside0.mk (fun W hW => areSaid k A c l W hW)
  obtain ⟨q, hq⟩ : ∃ q, saidB k l = q := ⟨_, rfl⟩
  obtain ⟨q2, hq2⟩ : ∃ q, okB k s = q := ⟨_, rfl⟩
  have HS := Aside0.mk (okB_eq k s)
  simp only [hq, hq2] at HA HS
  have HQ := Aside0.mk hq
  have HQ2 := Aside0.mk hq2
  clear hq hq2
  have HW1 := Aside0.mk (below_alloc HB.out (.cells #[.int .i64 s.f0, .int .i64 s.f1, .int .i64 s.f2] 25))
  have HBS := Aside0.mk (heap_alloc_new w (.cells #[.int .i64 s.f0, .int .i64 s.f1, .int .i64 s.f2] 25))
  have c0 : (w.alloc (.cells #[.int .i64 s.f0, .int .i64 s.f1, .int .i64 s.f2] 25)).cell? ⟨w.heap.size, 0, none⟩ = some (.int .i64 s.f0) := (blk_cell HBS.out 0).trans rfl
  have c1 : (w.alloc (.cells #[.int .i64 s.f0, .int .i64 s.f1, .int .i64 s.f2] 25)).cell? ⟨w.heap.size, 1, none⟩ = some (.int .i64 s.f1) := (blk_cell HBS.out 1).trans rfl
  have c2 : (w.alloc (.cells #[.int .i64 s.f0, .int .i64 s.f1, .int .i64 s.f2] 25)).cell? ⟨w.heap.size, 2, none⟩ = some (.int .i64 s.f2) := (blk_cell HBS.out 2).trans rfl
  cases q with
  | false =>
    have HE : Aside0 (provedB k l s = false) := ⟨by unfold provedB; rw [HQ.out]; rfl⟩
    go_enter Try.func11, Try.ntmps11
    go_wp2_with fail
    (first | go_region_with (first | (go_at_call 26; refine (HA.out _ (Kd.C_below HR.out ?bel)).mono ?_; (case bel => (repeat (first | exact HW1.out | apply pw_below_drewN | apply below_drew1))); rintro e w1 ⟨rfl, hb'⟩; have HB1 := Aside0.mk (below_step (w := w) (by (repeat (first | exact HW1.out | apply pw_below_drewN | apply below_drew1))) hb'); have BS1 := Aside0.mk (blk_below (by first | exact HBS.out | exact blk_drewN HBS.out _) hb'); have x0 : w1.cell? ⟨w.heap.size, 0, none⟩ = some (.int .i64 s.f0) := (blk_cell BS1.out 0).trans rfl; have x1 : w1.cell? ⟨w.heap.size, 1, none⟩ = some (.int .i64 s.f1) := (blk_cell BS1.out 1).trans rfl; have x2 : w1.cell? ⟨w.heap.size, 2, none⟩ = some (.int .i64 s.f2) := (blk_cell BS1.out 2).trans rfl; clear hb')) | fail)
    all_goals go_wp2
    all_goals go_ret
    all_goals exact ⟨by rw [HE.out]; rfl, by (repeat (first | exact HB1.out | apply pw_below_drewN | apply below_drew1))⟩
  | true =>
    cases q2 with
    | false =>
      have HE : Aside0 (provedB k l s = false) := ⟨by unfold provedB; rw [HQ.out, HQ2.out]; rfl⟩
      go_enter Try.func11, Try.ntmps11
      go_wp2_with fail
      (first | go_region_with (first | (go_at_call 26; refine (HA.out _ (Kd.C_below HR.out ?bel)).mono ?_; (case bel => (repeat (first | exact HW1.out | apply pw_below_drewN | apply below_drew1))); rintro e w1 ⟨rfl, hb'⟩; have HB1 := Aside0.mk (below_step (w := w) (by (repeat (first | exact HW1.out | apply pw_below_drewN | apply below_drew1))) hb'); have BS1 := Aside0.mk (blk_below (by first | exact HBS.out | exact blk_drewN HBS.out _) hb'); have x0 : w1.cell? ⟨w.heap.size, 0, none⟩ = some (.int .i64 s.f0) := (blk_cell BS1.out 0).trans rfl; have x1 : w1.cell? ⟨w.heap.size, 1, none⟩ = some (.int .i64 s.f1) := (blk_cell BS1.out 1).trans rfl; have x2 : w1.cell? ⟨w.heap.size, 2, none⟩ = some (.int .i64 s.f2) := (blk_cell BS1.out 2).trans rfl; clear hb') | (go_at_call 27; refine (impl_isSay.calls _ _ _ _ _ _ HS.out).mono ?_; rintro e w2 ⟨rfl, hb2⟩; have HB2 := Aside0.mk (below_step (w := w) (by (repeat (first | exact HB1.out | apply pw_below_drewN | apply below_drew1))) hb2); have BS2 := Aside0.mk (blk_below (by first | exact BS1.out | exact blk_drewN BS1.out _) hb2); have y0 : w2.cell? ⟨w.heap.size, 0, none⟩ = some (.int .i64 s.f0) := (blk_cell BS2.out 0).trans rfl; have y1 : w2.cell? ⟨w.heap.size, 1, none⟩ = some (.int .i64 s.f1) := (blk_cell BS2.out 1).trans rfl; have y2 : w2.cell? ⟨w.heap.size, 2, none⟩ = some (.int .i64 s.f2) := (blk_cell BS2.out 2).trans rfl; clear hb2)) | fail)
      all_goals go_wp2
      all_goals go_ret
      all_goals exact ⟨by rw [HE.out]; rfl, by (repeat (first | exact HB2.out | apply pw_below_drewN | apply below_drew1))⟩
    | true =>
      obtain ⟨hk, hl, hok⟩ := said_of HQ.out
      have HF := Aside0.mk (fun W hW => provedFrom k hk A c l hok hl W hW)
      have HOK := Aside0.mk hok
      have HL6 := Aside0.mk hl
      have HSO := Aside0.mk (oks_of HQ2.out)
      clear hok hl
      go_enter Try.func11, Try.ntmps11
      go_wp2_with fail
      go_region_held3 (fun w' => w'.cell? ⟨w.heap.size, 0, none⟩ = some (.int .i64 s.f0) ∧ w'.cell? ⟨w.heap.size, 1, none⟩ = some (.int .i64 s.f1) ∧ w'.cell? ⟨w.heap.size, 2, none⟩ = some (.int .i64 s.f2)) (go_keep) (first | (go_at_call 26; refine (HA.out _ (Kd.C_below HR.out ?bel)).mono ?_; (case bel => (repeat (first | exact HW1.out | apply pw_below_drewN | apply below_drew1))); rintro e w1 ⟨rfl, hb'⟩; have HB1 := Aside0.mk (below_step (w := w) (by (repeat (first | exact HW1.out | apply pw_below_drewN | apply below_drew1))) hb'); have BS1 := Aside0.mk (blk_below (by first | exact HBS.out | exact blk_drewN HBS.out _) hb'); have x0 : w1.cell? ⟨w.heap.size, 0, none⟩ = some (.int .i64 s.f0) := (blk_cell BS1.out 0).trans rfl; have x1 : w1.cell? ⟨w.heap.size, 1, none⟩ = some (.int .i64 s.f1) := (blk_cell BS1.out 1).trans rfl; have x2 : w1.cell? ⟨w.heap.size, 2, none⟩ = some (.int .i64 s.f2) := (blk_cell BS1.out 2).trans rfl; clear hb') | (go_at_call 27; refine (impl_isSay.calls _ _ _ _ _ _ HS.out).mono ?_; rintro e w2 ⟨rfl, hb2⟩; have HB2 := Aside0.mk (below_step (w := w) (by (repeat (first | exact HB1.out | apply pw_below_drewN | apply below_drew1))) hb2); have BS2 := Aside0.mk (blk_below (by first | exact BS1.out | exact blk_drewN BS1.out _) hb2); have y0 : w2.cell? ⟨w.heap.size, 0, none⟩ = some (.int .i64 s.f0) := (blk_cell BS2.out 0).trans rfl; have y1 : w2.cell? ⟨w.heap.size, 1, none⟩ = some (.int .i64 s.f1) := (blk_cell BS2.out 1).trans rfl; have y2 : w2.cell? ⟨w.heap.size, 2, none⟩ = some (.int .i64 s.f2) := (blk_cell BS2.out 2).trans rfl; clear hb2) | (go_at_call 28; refine (HF.out _ (Kd.C_below HR.out ?bel)).mono ?_; (case bel => (repeat (first | exact HB2.out | apply pw_below_drewN | apply below_drew1))); rintro e w3 ⟨K, gM, es, cl, rfl, hbm, hm, hi, hb3⟩; have HB3 := Aside0.mk (below_step (w := w) (by (repeat (first | exact HB2.out | apply pw_below_drewN | apply below_drew1))) hb3); have BS3 := Aside0.mk (blk_below (by first | exact BS2.out | exact blk_drewN BS2.out _) hb3); have z0 : w3.cell? ⟨w.heap.size, 0, none⟩ = some (.int .i64 s.f0) := (blk_cell BS3.out 0).trans rfl; have z1 : w3.cell? ⟨w.heap.size, 1, none⟩ = some (.int .i64 s.f1) := (blk_cell BS3.out 1).trans rfl; have z2 : w3.cell? ⟨w.heap.size, 2, none⟩ = some (.int .i64 s.f2) := (blk_cell BS3.out 2).trans rfl; have HE : Aside0 (provedB k l s = decide (s ∈ K)) := ⟨by unfold provedB; rw [HQ.out, HQ2.out, Bool.true_and, Bool.true_and]; exact decide_eq_decide.2 (((clos_inv hk HOK.out HL6.out).done s).trans (hi.done s).symm)⟩; obtain ⟨p, hp⟩ : ∃ p, decide (s ∈ K) = p := ⟨_, rfl⟩; have hrun := look_run hm hk.2 (fun s hs => (hi.snd s (Or.inl hs)).ok HOK.out) hbm s HSO.out p hp; have hrun1 := look_run (w := w3.drew) hm hk.2 (fun s hs => (hi.snd s (Or.inl hs)).ok HOK.out) hbm s HSO.out p hp; have hrun2 := look_run (w := w3.drew.drew) hm hk.2 (fun s hs => (hi.snd s (Or.inl hs)).ok HOK.out) hbm s HSO.out p hp; rw [hp] at HE; clear hb3 hbm hm hi hp))
      all_goals go_wp2
      all_goals go_ret
      all_goals exact ⟨by rw [HE.out]; rfl, by (repeat (first | exact HB3.out | apply pw_below_drewN | apply below_drew1))⟩

end Go.Proofs.Ytmkfmbjemdbigaa.Man
