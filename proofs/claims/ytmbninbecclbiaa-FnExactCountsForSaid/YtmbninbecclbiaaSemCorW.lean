/- spec.CornersOf answers what impl.CornersOf answers. -/
import Derived.Test.YtmbninbecclbiaaSemCorV
import Derived.Test.YtmbninbecclbiaaManCorA
import Derived.Test.YtmbninbecclbiaaPAx8
import Derived.Test.YtmbninbecclbiaaPAx2
import Derived.Test.YtmbninbecclbiaaPAx7
namespace Go.Proofs.Ytmbninbecclbiaa.Cor
open Go.RowKit Go.Proofs.Ytmbninbecclbiaa.PA Go.Proofs.YtmbninbecclbiaaW.PrintWords Go.Proofs.YtmbninbecclbiaaW.PrintLast Go.Proofs.YtmbninbecclbiaaW.PrintMore
set_option linter.unusedVariables false
set_option linter.unusedSimpArgs false
open ManR (lexC sortL cornersI corA rwS)

theorem Ev.mono {α : Type} {f : Nat → Option α} {r : α} (hm : ∀ k, LeO (f k) (f (k + 1))) (K : Nat) (h : f K = some r) : Ev f r := by
  refine ⟨K, fun k hk => ?_⟩
  obtain ⟨d, rfl⟩ : ∃ d, k = K + d := ⟨k - K, by omega⟩
  clear hk
  induction d with
  | zero => exact h
  | succ d ih => exact hm _ _ ih
theorem spec_row_all : ((List.range 6).all fun f => (List.range 4).all fun o => (List.range 4).all fun t => decide (spec_l6Row.f 40 f o t = some (Sem.rowL f o t, Sem.strictB f))) = true := by kernel_rfl
theorem spec_row40 (f o t : Nat) (hf : f < 6) (ho : o < 4) (ht : t < 4) : spec_l6Row.f 40 f o t = some (Sem.rowL f o t, Sem.strictB f) :=
  of_decide_eq_true (List.all_eq_true.1 (List.all_eq_true.1 (List.all_eq_true.1 spec_row_all f (List.mem_range.2 hf)) o (List.mem_range.2 ho)) t (List.mem_range.2 ht))
theorem row_ev {s : S29} (h : Sem.OkWeigh s.f0 s.f1 s.f2) : Ev (fun k => spec_l6Row.f k s.f0 s.f1 s.f2) (rwS s, Sem.strictB s.f0.toNat) := by
  obtain ⟨f, o, t, e0, e1, e2, hf, ho, ht⟩ := Sem.weigh_nat h
  refine Ev.mono (fun k => spec_l6Row.mono _ _ _ k) 40 ?_
  unfold rwS
  rw [e0, e1, e2]
  exact spec_row40 f o t hf ho ht
theorem less_ev {x y : List Int} (hx : x.length = 4) (hy : y.length = 4) : Ev (fun k => spec_l6Less.f k x y) (decide (lexC x y < 0)) := by
  have go : ∀ (n i : Nat), i + n = 4 → Ev (fun k => spec_l6Less.l0 k x y (i : Int)) (decide (lexC (x.drop i) (y.drop i) < 0)) := by
    intro n
    induction n with
    | zero =>
      intro i hi
      refine Ev.one fun k => ?_
      simp only [spec_l6Less.l0]
      rw [if_neg (by omega), List.drop_of_length_le (by omega), List.drop_of_length_le (by omega)]
      rfl
    | succ n ih =>
      intro i hi
      have hlx : i < x.length := by omega
      have hly : i < y.length := by omega
      have hw : wrap64 ((i : Int) + 1) = ((i + 1 : Nat) : Int) := by unfold wrap64; omega
      rw [List.drop_eq_getElem_cons hlx, List.drop_eq_getElem_cons hly]
      by_cases he : x[i] = y[i]
      · have e : lexC (x[i] :: x.drop (i + 1)) (y[i] :: y.drop (i + 1)) = lexC (x.drop (i + 1)) (y.drop (i + 1)) := by
          rw [lexC, if_neg (by omega), if_neg (by omega)]
        rw [e]
        refine (ih (i + 1) (by omega)).step fun k => ?_
        show spec_l6Less.l0 (k + 1) x y (i : Int) = _
        simp only [spec_l6Less.l0]
        rw [if_pos (by omega), if_pos (by omega), if_pos (by omega), Sem.rd_at x i hlx, Sem.rd_at y i hly, if_pos he, hw]
      · refine Ev.one fun k => ?_
        simp only [spec_l6Less.l0]
        rw [if_pos (by omega), if_pos (by omega), if_pos (by omega), Sem.rd_at x i hlx, Sem.rd_at y i hly, if_neg he]
        congr 1
        rw [lexC]
        by_cases h1 : x[i] < y[i]
        · rw [if_pos h1, decide_eq_true h1]; rfl
        · rw [if_neg h1, if_pos (by omega), decide_eq_false h1]; rfl
  exact go 4 0 rfl
/-- One row put into rows in order, from the right (the rows that stand are given from the right). -/
def insR : List (List Int) → List Int → List (List Int)
  | [], x => [x]
  | a :: R, x => if lexC x a < 0 then a :: insR R x else x :: a :: R
theorem insR_len : ∀ R x, (insR R x).length = R.length + 1
  | [], _ => rfl
  | a :: R, x => by
    unfold insR
    split
    · rw [List.length_cons, insR_len R x]; rfl
    · rfl
theorem insR_perm : ∀ R x, (insR R x).Perm (x :: R)
  | [], _ => List.Perm.refl _
  | a :: R, x => by
    unfold insR
    split
    · exact ((insR_perm R x).cons a).trans (List.Perm.swap x a R)
    · exact List.Perm.refl _
theorem insR_sorted : ∀ R x, R.Pairwise (fun a b => ¬ lexC a b < 0) → (insR R x).Pairwise (fun a b => ¬ lexC a b < 0)
  | [], _, _ => by unfold insR; simp
  | a :: R, x, h => by
    obtain ⟨h1, h2⟩ := List.pairwise_cons.1 h
    unfold insR
    split
    · next hlt =>
      refine List.pairwise_cons.2 ⟨fun y hy => ?_, insR_sorted R x h2⟩
      rcases List.mem_cons.1 ((insR_perm R x).mem_iff.1 hy) with rfl | hy
      · have := ManR.lexC_swap y a; omega
      · exact h1 y hy
    · next hlt =>
      refine List.pairwise_cons.2 ⟨fun y hy => ?_, h⟩
      rcases List.mem_cons.1 hy with rfl | hy
      · exact hlt
      · exact ManR.lexC_ntrans x a y hlt (h1 y hy)
theorem rd_mid : ∀ (A : List (List Int)) (x : List Int) (B : List (List Int)), rd_L2 (A ++ x :: B) (A.length : Int) = x := by
  intro A x B
  unfold rd_L2
  rw [List.getD_eq_getElem?_getD, Int.toNat_natCast, List.getElem?_append_right (Nat.le_refl _), Nat.sub_self]
  rfl
theorem set_mid : ∀ (A : List (List Int)) (x y : List Int) (B : List (List Int)), (A ++ x :: B).set A.length y = A ++ y :: B
  | [], _, _, _ => rfl
  | a :: A, x, y, B => by
    show a :: (A ++ x :: B).set A.length y = a :: (A ++ y :: B)
    rw [set_mid A x y B]
theorem sort_l2 (r : List (List Int)) (x8 : Int) (x : List Int) (hx : x.length = 4) : ∀ (R B : List (List Int)), (∀ y ∈ R, y.length = 4) → R.length + B.length ≤ 100000 →
    Ev (fun k => spec_CornersOf.l1 k ((insR R x).reverse ++ B) (wrap64 (x8 + 1))) r → Ev (fun k => spec_CornersOf.l2 k (R.reverse ++ x :: B) x8 (R.length : Int)) r
  | [], B, _, _, h => by
    refine h.step fun k => ?_
    show spec_CornersOf.l2 (k + 1) (x :: B) x8 0 = _
    simp only [spec_CornersOf.l2]
    rw [if_neg (by omega)]
    rfl
  | a :: R, B, h4, hl, h => by
    have hl' : R.length + 1 + B.length ≤ 100000 := hl
    have hw : wrap64 (((a :: R).length : Int) - 1) = (R.length : Int) := by rw [List.length_cons]; unfold wrap64; omega
    have ef : (a :: R).reverse ++ x :: B = R.reverse ++ a :: (x :: B) := by rw [List.reverse_cons, List.append_assoc]; rfl
    have eg : (a :: R).reverse ++ x :: B = (R.reverse ++ [a]) ++ x :: B := by rw [List.reverse_cons]
    have ra : rd_L2 ((a :: R).reverse ++ x :: B) (R.length : Int) = a := by
      rw [ef, show (R.length : Int) = (R.reverse.length : Int) by rw [List.length_reverse]]
      exact rd_mid _ _ _
    have rx : rd_L2 ((a :: R).reverse ++ x :: B) ((a :: R).length : Int) = x := by
      rw [eg, show ((a :: R).length : Int) = ((R.reverse ++ [a]).length : Int) by rw [List.length_append, List.length_reverse]; rfl]
      exact rd_mid _ _ _
    have es : (((a :: R).reverse ++ x :: B).set (a :: R).length a).set R.length x = R.reverse ++ x :: (a :: B) := by
      have l1 : (R.reverse ++ [a]).length = (a :: R).length := by rw [List.length_append, List.length_reverse]; rfl
      have q := set_mid (R.reverse ++ [a]) x a B
      rw [l1] at q
      rw [eg, q, List.append_assoc]
      have q2 := set_mid R.reverse a x (a :: B)
      rw [List.length_reverse] at q2
      exact q2
    have hlen : ((a :: R).reverse ++ x :: B).length = R.length + B.length + 2 := by rw [List.length_append, List.length_reverse, List.length_cons, List.length_cons]; omega
    have hc : ((a :: R).length : Int) = (R.length : Int) + 1 := by rw [List.length_cons]; omega
    have hb : Ev (fun k => (spec_l6Less.f k x a).bind fun t209 => if t209 = true then spec_CornersOf.l2 k (R.reverse ++ x :: (a :: B)) x8 (R.length : Int) else spec_CornersOf.l1 k ((a :: R).reverse ++ x :: B) (wrap64 (x8 + 1))) r := by
      refine Ev.bind (less_ev hx (h4 a (by simp))) ?_
      by_cases hlt : lexC x a < 0
      · simp only [decide_eq_true hlt, if_true]
        refine sort_l2 r x8 x hx R (a :: B) (fun y hy => h4 y (by simp [hy])) (by rw [List.length_cons]; omega) ?_
        have e : insR (a :: R) x = a :: insR R x := by rw [insR, if_pos hlt]
        rw [e, List.reverse_cons, List.append_assoc] at h
        exact h
      · simp only [decide_eq_false hlt]
        have e : insR (a :: R) x = x :: a :: R := by rw [insR, if_neg hlt]
        rw [e, List.reverse_cons, List.append_assoc] at h
        exact h
    refine hb.step fun k => ?_
    show spec_CornersOf.l2 (k + 1) ((a :: R).reverse ++ x :: B) x8 ((a :: R).length : Int) = _
    simp only [spec_CornersOf.l2]
    rw [hw, if_pos (by omega), if_pos (by omega), if_pos (by omega), if_pos (by omega), if_pos (by omega), ra, rx, Int.toNat_natCast, Int.toNat_natCast, es]
theorem sort_l1 : ∀ (B R : List (List Int)), (∀ y ∈ R, y.length = 4) → (∀ y ∈ B, y.length = 4) → R.length + B.length ≤ 100000 →
    Ev (fun k => spec_CornersOf.l1 k (R.reverse ++ B) (R.length : Int)) (B.foldl insR R).reverse
  | [], R, _, _, _ => by
    refine Ev.one fun k => ?_
    simp only [spec_CornersOf.l1, List.append_nil, List.foldl_nil]
    rw [if_neg (by rw [List.length_reverse]; omega)]
  | x :: B, R, hR, hB, hl => by
    have hl' : R.length + (B.length + 1) ≤ 100000 := hl
    have hw : wrap64 ((R.length : Int) + 1) = ((insR R x).length : Int) := by rw [insR_len]; unfold wrap64; omega
    have h := sort_l1 B (insR R x) (fun y hy => by
      rcases List.mem_cons.1 ((insR_perm R x).mem_iff.1 hy) with rfl | hy
      · exact hB y (by simp)
      · exact hR y hy) (fun y hy => hB y (by simp [hy])) (by rw [insR_len]; omega)
    have h2 := sort_l2 (B.foldl insR (insR R x)).reverse (R.length : Int) x (hB x (by simp)) R B hR (by omega) (by rw [hw]; exact h)
    refine h2.step fun k => ?_
    show spec_CornersOf.l1 (k + 1) (R.reverse ++ x :: B) (R.length : Int) = _
    simp only [spec_CornersOf.l1]
    rw [if_pos (by rw [List.length_append, List.length_reverse, List.length_cons]; omega)]
theorem fold_perm : ∀ (B R : List (List Int)), (B.foldl insR R).Perm (B ++ R)
  | [], _ => List.Perm.refl _
  | x :: B, R => (fold_perm B (insR R x)).trans (((insR_perm R x).append_left B).trans List.perm_middle)
theorem fold_sorted : ∀ (B R : List (List Int)), R.Pairwise (fun a b => ¬ lexC a b < 0) → (B.foldl insR R).Pairwise (fun a b => ¬ lexC a b < 0)
  | [], _, h => h
  | x :: B, R, h => fold_sorted B (insR R x) (insR_sorted R x h)
/-- The spec's sort. -/
theorem sort_ev {t : List (List Int)} (h4 : ∀ y ∈ t, y.length = 4) (hl : t.length ≤ 100000) : Ev (fun k => spec_CornersOf.l1 k t 1) (t.foldl insR []).reverse := by
  cases t with
  | nil =>
    refine Ev.one fun k => ?_
    simp only [spec_CornersOf.l1]
    rw [if_neg (by simp)]
    rfl
  | cons y B => exact sort_l1 B [y] (fun z hz => by rw [List.mem_singleton.1 hz]; exact h4 y (by simp)) (fun z hz => h4 z (by simp [hz])) (by have := hl; rw [List.length_cons] at this; rw [List.length_singleton]; omega)
/-- Sorted rows with the same members, none twice, are the same. -/
theorem sort_same {t u : List (List Int)} (ht : t.Nodup) (hu : u.Nodup) (hm : ∀ x, x ∈ t ↔ x ∈ u) : (t.foldl insR []).reverse = sortL u := by
  have p1 : (t.foldl insR []).reverse.Perm t := (List.reverse_perm _).trans ((fold_perm t []).trans (by rw [List.append_nil]))
  have p2 : (sortL u).Perm u := List.mergeSort_perm _ _
  have p3 : t.Perm u := (List.perm_ext_iff_of_nodup ht hu).2 hm
  refine List.Perm.eq_of_pairwise (le := fun a b => ¬ lexC b a < 0) (fun a b _ _ h1 h2 => ?_) ?_ ?_ (p1.trans (p3.trans p2.symm))
  · have := ManR.lexC_swap a b
    exact ManR.lexC_eq a b (by omega)
  · rw [List.pairwise_reverse]
    exact fold_sorted t [] List.Pairwise.nil
  · have := List.pairwise_mergeSort (le := fun x y => !(decide (lexC y x < 0))) (fun a b c h1 h2 => ?_) (fun a b => ?_) u
    · refine this.imp fun h => ?_
      simpa using h
    · simp at h1 h2 ⊢
      have := ManR.lexC_ntrans c b a (by omega) (by omega)
      omega
    · have := ManR.lexC_swap a b
      simp
      omega
end Go.Proofs.Ytmbninbecclbiaa.Cor
