/- impl.cornersOf: no condition but that the sentences' rows and the sums are known, and bounds on the minors. -/
import Derived.Test.YtmbninbecclbiaaManA
import Derived.Test.YtmbninbecclbiaaManSort
import Derived.Test.YtmbninbecclbiaaPAx18
import Derived.Test.YtmbninbecclbiaaPAx17
namespace Go.Proofs.Ytmbninbecclbiaa.ManR
open Go.RowKit Go.Proofs.Ytmbninbecclbiaa.PA Go.Proofs.YtmbninbecclbiaaW.PrintWords Go.Proofs.YtmbninbecclbiaaW.PrintLast Go.Proofs.YtmbninbecclbiaaW.PrintMore
set_option linter.unusedVariables false
set_option linter.unusedSimpArgs false

abbrev KS : Kd (List Int) := Kd.slice 3 (Kd.int .i64)
def units : List (List Int) := [[1, 0, 0, 0], [0, 1, 0, 0], [0, 0, 1, 0], [0, 0, 0, 1]]
/-- The bounds. -/
def bsL (rw : S29 → List Int) (l : List S29) : List (List Int) := units ++ (l.filter fun s => s.f0 != 1).map rw
/-- One round of the inner loop. -/
def stepR (wd : List Int → List Int → Int) (bs : List (List Int)) (o : List (List Int)) (a b c : List Int) : List (List Int) :=
  if Man.lineL (Man.ml a b c) = [] then o else if (bs.any fun x => decide (wd (Man.lineL (Man.ml a b c)) x < 0)) = true then o else if (o.any fun x => decide (x = Man.lineL (Man.ml a b c))) = true then o else o ++ [Man.lineL (Man.ml a b c)]
def l3 (wd : List Int → List Int → Int) (bs : List (List Int)) (a b : List Int) : Nat → List (List Int) → List (List Int)
  | 0, o => o
  | j + 1, o => stepR wd bs (l3 wd bs a b j o) a b (rd_L2 bs (j : Int))
def l2 (wd : List Int → List Int → Int) (bs : List (List Int)) (a : List Int) : Nat → List (List Int) → List (List Int)
  | 0, o => o
  | k + 1, o => l3 wd bs a (rd_L2 bs (k : Int)) k (l2 wd bs a k o)
def l1 (wd : List Int → List Int → Int) (bs : List (List Int)) : Nat → List (List Int)
  | 0 => []
  | i + 1 => l2 wd bs (rd_L2 bs (i : Int)) i (l1 wd bs i)
theorem mem_rd (bs : List (List Int)) (x : Int) (h0 : 0 ≤ x) (h : x < (bs.length : Int)) : rd_L2 bs x ∈ bs := by
  unfold rd_L2
  rw [List.getD_eq_getElem?_getD, List.getElem?_eq_getElem (by omega)]
  exact List.getElem_mem _
theorem lineL_len (m : Nat → Int) : Man.lineL m = [] ∨ (Man.lineL m).length = 4 := by
  unfold Man.lineL
  split
  · exact Or.inl rfl
  · split
    · exact Or.inl rfl
    · exact Or.inr (Man.ol_len m)

theorem stepR_len (wd : List Int → List Int → Int) (bs o : List (List Int)) (a b c : List Int) : (stepR wd bs o a b c).length ≤ o.length + 1 ∧ ((∀ x ∈ o, x.length = 4) → ∀ x ∈ stepR wd bs o a b c, x.length = 4) := by
  unfold stepR
  split
  · exact ⟨by omega, fun h => h⟩
  · rename_i h1
    split
    · exact ⟨by omega, fun h => h⟩
    · split
      · exact ⟨by omega, fun h => h⟩
      · refine ⟨by simp, fun h x hx => ?_⟩
        rcases List.mem_append.1 hx with hx | hx
        · exact h x hx
        · rw [List.mem_singleton.1 hx]
          exact (lineL_len _).resolve_left h1
theorem l3_len (wd : List Int → List Int → Int) (bs : List (List Int)) (a b : List Int) (o : List (List Int)) : ∀ j, (l3 wd bs a b j o).length ≤ o.length + j ∧ ((∀ x ∈ o, x.length = 4) → ∀ x ∈ l3 wd bs a b j o, x.length = 4)
  | 0 => ⟨Nat.le_refl _, fun h => h⟩
  | j + 1 => by
    have ih := l3_len wd bs a b o j
    have hs := stepR_len wd bs (l3 wd bs a b j o) a b (rd_L2 bs (j : Int))
    exact ⟨by show (stepR wd bs (l3 wd bs a b j o) a b (rd_L2 bs (j : Int))).length ≤ _; omega, fun h => hs.2 (ih.2 h)⟩
theorem l2_len (wd : List Int → List Int → Int) (bs : List (List Int)) (a : List Int) (o : List (List Int)) : ∀ k, k ≤ 10 → (l2 wd bs a k o).length ≤ o.length + 10 * k ∧ ((∀ x ∈ o, x.length = 4) → ∀ x ∈ l2 wd bs a k o, x.length = 4)
  | 0, _ => ⟨Nat.le_refl _, fun h => h⟩
  | k + 1, hk => by
    have ih := l2_len wd bs a o k (by omega)
    have hs := l3_len wd bs a (rd_L2 bs (k : Int)) (l2 wd bs a k o) k
    exact ⟨by show (l3 wd bs a (rd_L2 bs (k : Int)) k (l2 wd bs a k o)).length ≤ _; omega, fun h => hs.2 (ih.2 h)⟩
theorem l1_len (wd : List Int → List Int → Int) (bs : List (List Int)) : ∀ i, i ≤ 10 → (l1 wd bs i).length ≤ 100 * i ∧ ∀ x ∈ l1 wd bs i, x.length = 4
  | 0, _ => ⟨Nat.le_refl _, fun x hx => absurd hx (List.not_mem_nil)⟩
  | i + 1, hi => by
    have ih := l1_len wd bs i (by omega)
    have hs := l2_len wd bs (rd_L2 bs (i : Int)) (l1 wd bs i) i (by omega)
    exact ⟨by show (l2 wd bs (rd_L2 bs (i : Int)) i (l1 wd bs i)).length ≤ _; omega, hs.2 ih.2⟩
theorem stepR_nodup (wd : List Int → List Int → Int) (bs o : List (List Int)) (a b c : List Int) (h : o.Nodup) : (stepR wd bs o a b c).Nodup := by
  unfold stepR
  split
  · exact h
  · split
    · exact h
    · split
      · exact h
      · rename_i h3
        refine List.nodup_append.2 ⟨h, by simp, fun x hx y hy e => h3 ?_⟩
        rw [List.mem_singleton.1 hy] at e
        exact List.any_eq_true.2 ⟨x, hx, decide_eq_true e⟩
theorem l3_nodup (wd : List Int → List Int → Int) (bs : List (List Int)) (a b : List Int) (o : List (List Int)) (h : o.Nodup) : ∀ j, (l3 wd bs a b j o).Nodup
  | 0 => h
  | j + 1 => stepR_nodup wd bs _ a b _ (l3_nodup wd bs a b o h j)
theorem l2_nodup (wd : List Int → List Int → Int) (bs : List (List Int)) (a : List Int) (o : List (List Int)) (h : o.Nodup) : ∀ k, (l2 wd bs a k o).Nodup
  | 0 => h
  | k + 1 => l3_nodup wd bs a _ _ (l2_nodup wd bs a o h k) k
theorem l1_nodup (wd : List Int → List Int → Int) (bs : List (List Int)) : ∀ i, (l1 wd bs i).Nodup
  | 0 => List.nodup_nil
  | i + 1 => l2_nodup wd bs _ _ (l1_nodup wd bs i) i
section
variable (w : World) (A : Option Addr) (c : Nat) (l : List S29) (rw : S29 → List Int) (wd : List Int → List Int → Int) (kw kd : Nat)
set_option maxHeartbeats 8000000 in
set_option maxRecDepth 100000 in
theorem cornersOf (hr : Kd.C k29 w A l.length l) (hl : l.length ≤ 6) (hrw : ∀ s ∈ l, s.f0 ≠ 1 → impl_weightsOf.f kw s.f0 s.f1 s.f2 = some (rw s))
    (h4 : ∀ x ∈ bsL rw l, x.length = 4) (hm : ∀ a ∈ bsL rw l, ∀ b ∈ bsL rw l, ∀ d ∈ bsL rw l, ∀ i, i < 4 → -1000 ≤ Man.ml a b d i ∧ Man.ml a b d i ≤ 1000)
    (hd : ∀ a ∈ bsL rw l, ∀ b ∈ bsL rw l, ∀ d ∈ bsL rw l, ∀ x ∈ bsL rw l, Man.lineL (Man.ml a b d) ≠ [] → impl_weighed.f kd (Man.lineL (Man.ml a b d)) x = some (wd (Man.lineL (Man.ml a b d)) x)) :
    Calls Try.prog 51 #[.slice A l.length c] w fun e w' => ∃ v, e = .returned v ∧ Kd.S KS 35 w' w.heap.size (fun _ => True) v (sortL (l1 wd (bsL rw l) (bsL rw l).length)) ∧ Below w.heap.size w w' := by
  obtain ⟨bs, hbs⟩ : ∃ bs, bs = bsL rw l := ⟨_, rfl⟩
  rw [← hbs] at h4 hm hd ⊢
  obtain ⟨n, hn⟩ : ∃ n, n = bs.length := ⟨_, rfl⟩
  rw [← hn]
  have HBS0 := Aside0.mk hbs
  have HNE := Aside0.mk hn
  clear hbs hn
  have HR := Aside0.mk hr
  have HL := Aside0.mk hl
  have HRW := Aside0.mk hrw
  have H4 := Aside0.mk h4
  have HM := Aside0.mk hm
  have HD := Aside0.mk hd
  have HB0 := Aside0.mk (Below.refl w.heap.size w)
  clear hr hl hrw h4 hm hd
  go_enter Try.func51, Try.ntmps51
  go_wp2_with (first | ((with_reducible refine gate_dst (N := 14) rfl ?_); refine Kd.R_lit (Kd.int .i64) _ 3 ?hg (N := 14) ?hd (xs := ([1, 0, 0, 0] : List Int)) (inner := [.int .i64 1, .int .i64 0, .int .i64 0, .int .i64 0]) (ok := fun _ => True) (okp := fun _ => True) ?hr ?hp (fun _ hk => hk) trivial (Below.refl _ _) (Nat.le_refl _) (by simp) ?_; (case hd => rfl); (case hg => rfl); (case hr => first | (go_simp; done) | (go_simp; rfl)); (case hp => exact (Reps.one (show Kd.M (Kd.int .i64) _ _ _ 1 [.int .i64 1] from rfl) (Reps.one (show Kd.M (Kd.int .i64) _ _ _ 0 [.int .i64 0] from rfl) (Reps.one (show Kd.M (Kd.int .i64) _ _ _ 0 [.int .i64 0] from rfl) (Reps.one (show Kd.M (Kd.int .i64) _ _ _ 0 [.int .i64 0] from rfl) (Reps.none _ _)))))); intro v14 w14 ho hb hg_ hnew_; clear hg_ hnew_; have RL14 := Aside0.mk (Kd.R_lower ho (below_size HB0.out)); have HB14 := Aside0.mk (below_step HB0.out hb); obtain ⟨P14, p14, rfl⟩ := Kd.R_slice RL14.out; clear ho hb) | ((with_reducible refine gate_dst (N := 15) rfl ?_); refine Kd.R_lit (Kd.int .i64) _ 3 ?hg (N := 15) ?hd (xs := ([0, 1, 0, 0] : List Int)) (inner := [.int .i64 0, .int .i64 1, .int .i64 0, .int .i64 0]) (ok := fun _ => True) (okp := fun _ => True) ?hr ?hp (fun _ hk => hk) trivial (Below.refl _ _) (Nat.le_refl _) (by simp) ?_; (case hd => rfl); (case hg => rfl); (case hr => first | (go_simp; done) | (go_simp; rfl)); (case hp => exact (Reps.one (show Kd.M (Kd.int .i64) _ _ _ 0 [.int .i64 0] from rfl) (Reps.one (show Kd.M (Kd.int .i64) _ _ _ 1 [.int .i64 1] from rfl) (Reps.one (show Kd.M (Kd.int .i64) _ _ _ 0 [.int .i64 0] from rfl) (Reps.one (show Kd.M (Kd.int .i64) _ _ _ 0 [.int .i64 0] from rfl) (Reps.none _ _)))))); intro v15 w15 ho hb hg_ hnew_; clear hg_ hnew_; have RL15 := Aside0.mk (Kd.R_lower ho (below_size HB14.out)); have HB15 := Aside0.mk (below_step HB14.out hb); have RL14_15 := Aside0.mk (Kd.R_below RL14.out hb); obtain ⟨P15, p15, rfl⟩ := Kd.R_slice RL15.out; clear ho hb) | ((with_reducible refine gate_dst (N := 16) rfl ?_); refine Kd.R_lit (Kd.int .i64) _ 3 ?hg (N := 16) ?hd (xs := ([0, 0, 1, 0] : List Int)) (inner := [.int .i64 0, .int .i64 0, .int .i64 1, .int .i64 0]) (ok := fun _ => True) (okp := fun _ => True) ?hr ?hp (fun _ hk => hk) trivial (Below.refl _ _) (Nat.le_refl _) (by simp) ?_; (case hd => rfl); (case hg => rfl); (case hr => first | (go_simp; done) | (go_simp; rfl)); (case hp => exact (Reps.one (show Kd.M (Kd.int .i64) _ _ _ 0 [.int .i64 0] from rfl) (Reps.one (show Kd.M (Kd.int .i64) _ _ _ 0 [.int .i64 0] from rfl) (Reps.one (show Kd.M (Kd.int .i64) _ _ _ 1 [.int .i64 1] from rfl) (Reps.one (show Kd.M (Kd.int .i64) _ _ _ 0 [.int .i64 0] from rfl) (Reps.none _ _)))))); intro v16 w16 ho hb hg_ hnew_; clear hg_ hnew_; have RL16 := Aside0.mk (Kd.R_lower ho (below_size HB15.out)); have HB16 := Aside0.mk (below_step HB15.out hb); have RL14_16 := Aside0.mk (Kd.R_below RL14_15.out hb); have RL15_16 := Aside0.mk (Kd.R_below RL15.out hb); obtain ⟨P16, p16, rfl⟩ := Kd.R_slice RL16.out; clear ho hb) | ((with_reducible refine gate_dst (N := 17) rfl ?_); refine Kd.R_lit (Kd.int .i64) _ 3 ?hg (N := 17) ?hd (xs := ([0, 0, 0, 1] : List Int)) (inner := [.int .i64 0, .int .i64 0, .int .i64 0, .int .i64 1]) (ok := fun _ => True) (okp := fun _ => True) ?hr ?hp (fun _ hk => hk) trivial (Below.refl _ _) (Nat.le_refl _) (by simp) ?_; (case hd => rfl); (case hg => rfl); (case hr => first | (go_simp; done) | (go_simp; rfl)); (case hp => exact (Reps.one (show Kd.M (Kd.int .i64) _ _ _ 0 [.int .i64 0] from rfl) (Reps.one (show Kd.M (Kd.int .i64) _ _ _ 0 [.int .i64 0] from rfl) (Reps.one (show Kd.M (Kd.int .i64) _ _ _ 0 [.int .i64 0] from rfl) (Reps.one (show Kd.M (Kd.int .i64) _ _ _ 1 [.int .i64 1] from rfl) (Reps.none _ _)))))); intro v17 w17 ho hb hg_ hnew_; clear hg_ hnew_; have RL17 := Aside0.mk (Kd.R_lower ho (below_size HB16.out)); have HB17 := Aside0.mk (below_step HB16.out hb); have RL14_17 := Aside0.mk (Kd.R_below RL14_16.out hb); have RL15_17 := Aside0.mk (Kd.R_below RL15_16.out hb); have RL16_17 := Aside0.mk (Kd.R_below RL16.out hb); obtain ⟨P17, p17, rfl⟩ := Kd.R_slice RL17.out; clear ho hb) | ((with_reducible refine gate_dst (N := 18) rfl ?_); refine Kd.R_lit KS (w0 := w) w.heap.size 35 ?hg (N := 18) ?hd (xs := units) (inner := [.slice P14 4 p14, .slice P15 4 p15, .slice P16 4 p16, .slice P17 4 p17]) (ok := fun _ => True) (okp := fun _ => True) ?hr ?hp (fun _ hk => hk) trivial HB17.out (below_size HB17.out) (by decide) ?_; (case hd => rfl); (case hg => rfl); (case hr => first | (go_simp; done) | (go_simp; rfl)); (case hp => exact (Reps.one (Kd.M_row RL14_17.out) (Reps.one (Kd.M_row RL15_17.out) (Reps.one (Kd.M_row RL16_17.out) (Reps.one (Kd.M_row RL17.out) (Reps.none _ _)))))); intro v18 w18 ho hb hg_ hnew_; clear hg_ hnew_; have RB0 := Aside0.mk ho; have HB18 := Aside0.mk hb; clear ho hb))
  go_loopg [3, 21] l.length (fun kq v3 v21 w' => ∃ (j : Nat) (y : Int), v21 = .int .i64 y ∧ Aside0 (y = (j : Int)) ∧ Aside0 (j + kq = l.length) ∧ Aside0 (Kd.R KS 35 w' w.heap.size (fun _ => True) v3 (bsL rw (l.take j))) ∧ Aside0 (Below w.heap.size w w'))
  case atStart => exact ⟨0, 0, rfl, ⟨rfl⟩, ⟨Nat.zero_add _⟩, RB0, HB18⟩
  case round =>
    clear RB0 HB18 HB17 HB16 HB15 HB14 HB0 RL14_17 RL15_17 RL16_17 RL17
    obtain ⟨j, y, rfl, HJ, HK, RB, HB⟩ := hrel
    cases gk with
    | zero =>
      have yn : decide (y < (l.length : Int)) = false := decide_eq_false (by have := HJ.out; have := HK.out; omega)
      have RB1 := Aside0.mk (show Kd.R KS 35 wr w.heap.size (fun _ => True) u3 bs by rw [HBS0.out]; have e : l.take j = l := List.take_of_length_le (by have := HK.out; omega); rw [e] at RB; exact RB.out)
      have HBL := Aside0.mk (show 4 ≤ n ∧ n ≤ 10 by
        rw [HNE.out, HBS0.out]
        unfold bsL
        rw [List.length_append, List.length_map]
        have h1 := List.length_filter_le (fun s : S29 => s.f0 != 1) l
        have h4 := HL.out
        show 4 ≤ 4 + _ ∧ 4 + _ ≤ 10
        omega)
      obtain ⟨gB, cB, rfl, _, _, _⟩ := Kd.R_form RB1.out (by have := HBL.out; have := HNE.out; omega)
      have HC1 := Aside0.mk (show bs.length ≤ cB ∧ Kd.C KS wr (some ⟨gB, 0, none⟩) bs.length bs from ⟨(Kd.R_reads' RB1.out).2.1, (Kd.R_reads' RB1.out).2.2⟩)
      rw [← HNE.out] at HC1 ⊢
      have HB1 := HB
      have HB2 := Aside0.mk (Below.refl wr.heap.size wr)
      clear RB RB1 HB HRW
      generalize hW1 : wr = W1 at HC1 HB1 HB2 ⊢
      clear hW1
      go_wp2_with (first | ((with_reducible refine gate_dst (N := 34) rfl ?_); refine Kd.R_lit (Kd.tag (fun _ => 0) KS) _ 35 ?hg (N := 34) ?hd (xs := ([] : List (List Int × Nat))) (inner := []) (ok := fun _ => True) (okp := fun _ => True) ?hr ?hp (fun _ hk => hk) trivial (Below.refl _ _) (Nat.le_refl _) (by simp) ?_; (case hd => rfl); (case hg => rfl); (case hr => first | (go_simp; done) | (go_simp; rfl)); (case hp => exact (Reps.none _ _)); intro v34 w34 ho hb hg_ hnew_; clear hg_ hnew_; have SO := Aside0.mk (show Kd.S KS 35 w34 W1.heap.size (fun _ => True) v34 [] from ⟨fun _ => 0, ho⟩); have HBo := Aside0.mk hb; clear ho hb))
      go_loopg [6, 37] n (fun kq v6 v37 w' => ∃ (i : Nat) (x : Int), v37 = .int .i64 x ∧ Aside0 (x = (i : Int)) ∧ Aside0 (i + kq = n) ∧ Aside0 (Kd.S KS 35 w' W1.heap.size (fun _ => True) v6 (l1 wd bs i)) ∧ Aside0 (Below W1.heap.size W1 w'))
      case atStart => exact ⟨0, 0, rfl, ⟨rfl⟩, ⟨Nat.zero_add _⟩, SO, HBo⟩
      case round =>
        clear SO HBo HB2
        obtain ⟨i, x, rfl, HI, HKi, SO, HB⟩ := hrel
        cases gk with
        | zero =>
          have xn : decide (x < (n : Int)) = false := decide_eq_false (by have := HI.out; have := HKi.out; omega)
          have SO1 := Aside0.mk (show Kd.S KS 35 wr W1.heap.size (fun _ => True) u6 (l1 wd bs n) by rw [show n = i by have := HKi.out; omega]; exact SO.out)
          have hl1 := l1_len wd bs n (by have := HBL.out; omega)
          have HSo := Aside0.mk (sortC wr W1.heap.size u6 (l1 wd bs n) SO1.out (l1_nodup wd bs n) (fun x hx => by have := hl1.2 x hx; omega) (by have := hl1.1; have := HBL.out; omega))
          clear hl1
          go_wp2_with (first | (go_at_call 73; (with_reducible refine HSo.out.mono ?_); rintro e w9 ⟨rfl, hs_, hb_⟩; have SO9 := Aside0.mk hs_; have HB9 := Aside0.mk (hb_ W1 rfl HB.out); clear hs_ hb_))
          go_ret
          exact ⟨_, rfl, Kd.S_lower SO9.out (below_size HB1.out), below_step HB1.out HB9.out⟩
        | succ k1 =>
          have x0 : 0 ≤ x := by have := HI.out; omega
          have xl : x < (n : Int) := by have := HI.out; have := HKi.out; omega
          have xn : decide (x < (n : Int)) = true := decide_eq_true xl
          have xb : x < (n : Int) := by exact xl
          have xc : x ≤ (cB : Int) := by have := HC1.out.1; omega
          obtain ⟨ad_, PA1, cPA1, e_, q8, hc_, hr_⟩ := at_L2 HC1.out.2 x x0 xb
          cases e_
          replace q8 := (HB.out.cell (World.block_lt_of_cell? W1 _ q8)).trans q8
          obtain ⟨a, ha⟩ : ∃ a, a = rd_L2 bs x := ⟨_, rfl⟩
          rw [← ha] at q8 hc_ hr_
          have HCa := Aside0.mk (show a.length ≤ cPA1 ∧ Kd.C (Kd.int .i64) W1 PA1 a.length a from ⟨hc_, hr_⟩)
          have HMa := Aside0.mk (show a ∈ bs by rw [ha]; exact mem_rd bs x x0 (by have := HNE.out; omega))
          have HA := Aside0.mk (show l2 wd bs a i (l1 wd bs i) = l1 wd bs (i + 1) by rw [ha, HI.out]; rfl)
          have HI1 := Aside0.mk (show wrap64 (x + 1) = ((i + 1 : Nat) : Int) by have := HI.out; have := HKi.out; have := HBL.out; unfold wrap64; omega)
          have xi : x.toNat = i := by have := HI.out; omega
          rw [xi, add_at, Nat.zero_add] at q8
          clear ha hc_ hr_
          go_wp2
          go_loopg [6, 46] i (fun kq v6 v46 w' => ∃ (k : Nat) (y : Int), v46 = .int .i64 y ∧ Aside0 (y = (k : Int)) ∧ Aside0 (k + kq = i) ∧ Aside0 (Kd.S KS 35 w' W1.heap.size (fun _ => True) v6 (l2 wd bs a k (l1 wd bs i))) ∧ Aside0 (Below W1.heap.size W1 w'))
          case atStart => exact ⟨0, 0, rfl, ⟨rfl⟩, ⟨Nat.zero_add _⟩, SO, HB⟩
          case round =>
            clear SO HB q8
            obtain ⟨k, y, rfl, HY, HKk, SO, HB⟩ := hrel
            cases gk with
            | zero =>
              have yn : decide (y < (i : Int)) = false := decide_eq_false (by have := HY.out; have := HKk.out; omega)
              have SO1 := Aside0.mk (show Kd.S KS 35 wr W1.heap.size (fun _ => True) u6 (l1 wd bs (i + 1)) by rw [show k = i by have := HKk.out; omega, HA.out] at SO; exact SO.out)
              go_wp2
              go_roundg k1
              case measure => have := HKi.out; omega
              case rel => exact ⟨i + 1, _, rfl, HI1, ⟨by have := HKi.out; omega⟩, SO1, HB⟩
            | succ k2 =>
              have y0 : 0 ≤ y := by have := HY.out; omega
              have yl : y < (i : Int) := by have := HY.out; have := HKk.out; omega
              have yn : decide (y < (i : Int)) = true := decide_eq_true yl
              have yb : y < (n : Int) := by have := HKi.out; omega
              have yc : y ≤ (cB : Int) := by have := HC1.out.1; omega
              obtain ⟨ad_, PB1, cPB1, e_, q10, hc_, hr_⟩ := at_L2 HC1.out.2 y y0 yb
              cases e_
              replace q10 := (HB.out.cell (World.block_lt_of_cell? W1 _ q10)).trans q10
              obtain ⟨b, hb⟩ : ∃ b, b = rd_L2 bs y := ⟨_, rfl⟩
              rw [← hb] at q10 hc_ hr_
              have HCb := Aside0.mk (show b.length ≤ cPB1 ∧ Kd.C (Kd.int .i64) W1 PB1 b.length b from ⟨hc_, hr_⟩)
              have HMb := Aside0.mk (show b ∈ bs by rw [hb]; exact mem_rd bs y y0 (by have := HNE.out; omega))
              have HBb := Aside0.mk (show l3 wd bs a b k (l2 wd bs a k (l1 wd bs i)) = l2 wd bs a (k + 1) (l1 wd bs i) by rw [hb, HY.out]; rfl)
              have HY1 := Aside0.mk (show wrap64 (y + 1) = ((k + 1 : Nat) : Int) by have := HY.out; have := HKk.out; have := HKi.out; have := HBL.out; unfold wrap64; omega)
              have yk : y.toNat = k := by have := HY.out; omega
              rw [yk, add_at, Nat.zero_add] at q10
              clear hb hc_ hr_
              go_wp2
              go_loopg [6, 55] k (fun kq v6 v55 w' => ∃ (j : Nat) (z : Int), v55 = .int .i64 z ∧ Aside0 (z = (j : Int)) ∧ Aside0 (j + kq = k) ∧ Aside0 (Kd.S KS 35 w' W1.heap.size (fun _ => True) v6 (l3 wd bs a b j (l2 wd bs a k (l1 wd bs i)))) ∧ Aside0 (Below W1.heap.size W1 w'))
              case atStart => exact ⟨0, 0, rfl, ⟨rfl⟩, ⟨Nat.zero_add _⟩, SO, HB⟩
              case round =>
                clear SO HB q10
                obtain ⟨j, z, rfl, HZ, HKj, SO, HB⟩ := hrel
                cases gk with
                | zero =>
                  have zn : decide (z < (k : Int)) = false := decide_eq_false (by have := HZ.out; have := HKj.out; omega)
                  have SO1 := Aside0.mk (show Kd.S KS 35 wr W1.heap.size (fun _ => True) u6 (l2 wd bs a (k + 1) (l1 wd bs i)) by rw [show j = k by have := HKj.out; omega, HBb.out] at SO; exact SO.out)
                  go_wp2
                  go_roundg k2
                  case measure => have := HKk.out; omega
                  case rel => exact ⟨k + 1, _, rfl, HY1, ⟨by have := HKk.out; omega⟩, SO1, HB⟩
                | succ k3 =>
                  have z0 : 0 ≤ z := by have := HZ.out; omega
                  have zl : z < (k : Int) := by have := HZ.out; have := HKj.out; omega
                  have zn : decide (z < (k : Int)) = true := decide_eq_true zl
                  have zb : z < (n : Int) := by have := HKk.out; have := HKi.out; omega
                  have zc : z ≤ (cB : Int) := by have := HC1.out.1; omega
                  obtain ⟨ad_, PD1, cPD1, e_, q12, hc_, hr_⟩ := at_L2 HC1.out.2 z z0 zb
                  cases e_
                  replace q12 := (HB.out.cell (World.block_lt_of_cell? W1 _ q12)).trans q12
                  obtain ⟨d, hd⟩ : ∃ d, d = rd_L2 bs z := ⟨_, rfl⟩
                  rw [← hd] at q12 hc_ hr_
                  have HCd := Aside0.mk (show d.length ≤ cPD1 ∧ Kd.C (Kd.int .i64) W1 PD1 d.length d from ⟨hc_, hr_⟩)
                  have HMd := Aside0.mk (show d ∈ bs by rw [hd]; exact mem_rd bs z z0 (by have := HNE.out; omega))
                  have HDd := Aside0.mk (show stepR wd bs (l3 wd bs a b j (l2 wd bs a k (l1 wd bs i))) a b d = l3 wd bs a b (j + 1) (l2 wd bs a k (l1 wd bs i)) by rw [hd, HZ.out]; rfl)
                  have HZ1 := Aside0.mk (show wrap64 (z + 1) = ((j + 1 : Nat) : Int) by have := HZ.out; have := HKj.out; have := HKk.out; have := HKi.out; have := HBL.out; unfold wrap64; omega)
                  rw [add_at, Nat.zero_add] at q12
                  clear hd hc_ hr_
                  have HLn := Aside0.mk (fun W (hb : Below W1.heap.size W1 W) => Man.lineOf W PA1 PB1 PD1 cPA1 cPB1 cPD1 a b d (Kd.C_below HCa.out.2 hb) (Kd.C_below HCb.out.2 hb) (Kd.C_below HCd.out.2 hb) (H4.out a HMa.out) (H4.out b HMb.out) (H4.out d HMd.out) (HM.out a HMa.out b HMb.out d HMd.out))
                  have HWd := Aside0.mk (fun x hx => HD.out a HMa.out b HMb.out d HMd.out x hx)
                  have HLL := Aside0.mk (lineL_len (Man.ml a b d))
                  obtain ⟨o, ho⟩ : ∃ o, o = l3 wd bs a b j (l2 wd bs a k (l1 wd bs i)) := ⟨_, rfl⟩
                  have HOL := Aside0.mk (show o.length ≤ 1110 ∧ ∀ x ∈ o, x.length = 4 by
                    have hx := HKi.out
                    have hy := HKk.out
                    have hz := HKj.out
                    have hn := HBL.out
                    have t1 := l1_len wd bs i (by omega)
                    have t2 := l2_len wd bs a (l1 wd bs i) k (by omega)
                    have t3 := l3_len wd bs a b (l2 wd bs a k (l1 wd bs i)) j
                    rw [ho]
                    exact ⟨by omega, t3.2 (t2.2 t1.2)⟩)
                  rw [← ho] at SO HDd
                  have hst := HDd.out
                  unfold stepR at hst
                  have HST := Aside0.mk hst.symm
                  clear hst
                  obtain ⟨r, hr⟩ : ∃ r, r = Man.lineL (Man.ml a b d) := ⟨_, rfl⟩
                  rw [← hr] at HST HLn HWd HLL
                  obtain ⟨oN, hoN⟩ : ∃ oN, oN = l3 wd bs a b (j + 1) (l2 wd bs a k (l1 wd bs i)) := ⟨_, rfl⟩
                  rw [← hoN] at HST
                  have HoN := Aside0.mk hoN
                  obtain ⟨Ao, co, rfl⟩ := Kd.S_slice SO.out
                  have SOb := Aside0.mk (show Kd.S KS 35 wr W1.heap.size (fun k_ => k_ < wr.heap.size) (.slice Ao o.length co) o from Kd.S_mono (Kd.S_bound SO.out) (fun _ hk => hk.2.2.1))
                  clear ho hr hoN HDd HM HD SO
                  by_cases hre : r = []
                  · have HRE := Aside0.mk hre
                    have HEq := Aside0.mk (show oN = o by rw [HST.out, if_pos hre])
                    have hnil : ∀ W : World, Sem.run Try.prog (binOp .eql 35 (.slice none 0 0) (.slice none 0 0)) W = .ok (.bool true) W := fun W => by kernel_rfl
                    clear hre
                    go_wp2_with (first | (go_at_call 68; (with_reducible refine (HLn.out _ HB.out).mono ?_); rintro e w63 ⟨v63, rfl, hr_, hn_, hb_⟩; obtain rfl := hn_ HRE.out; have SO3 := Aside0.mk (Kd.S_below SOb.out hb_); have HB3 := Aside0.mk (below_step HB.out hb_); clear hr_ hn_ hb_) | ((with_reducible refine gate_dst (N := 13) rfl ?_); refine box_event ?hg (N := 13) ?hd (cs := #[.slice none 0 0]) (t := 35) ?hr ?_; (case hd => rfl); (case hg => rfl); (case hr => first | (go_simp; done) | (go_simp; rfl)); intro g13 hg13 wg13 hbox hb; have hbb := Man.below_one hg13 hb (.slice none 0 0); have SO4 := Aside0.mk (Kd.S_below SO3.out hbb); have HB4 := Aside0.mk (below_step HB3.out hbb); have hc13 : wg13.cell? ⟨g13, 0, none⟩ = some (.slice none 0 0) := (blk_cell hbox 0).trans rfl; have hf13 := blk_frozen hbox 0; clear hbox hb hg13 hbb))
                    go_roundg k3
                    case measure => have := HKj.out; omega
                    case rel => exact ⟨j + 1, _, rfl, HZ1, ⟨by have := HKj.out; omega⟩, ⟨by rw [← HoN.out, HEq.out]; exact Kd.S_mono SO4.out (fun _ _ => trivial)⟩, HB4⟩
                  · have HRN := Aside0.mk (show r.length = 4 from HLL.out.resolve_left hre)
                    have HST2 := Aside0.mk (show oN = if (bs.any fun x => decide (wd r x < 0)) = true then o else if (o.any fun x => decide (x = r)) = true then o else o ++ [r] by rw [HST.out, if_neg hre])
                    have HWd2 := Aside0.mk (fun x hx => HWd.out x hx hre)
                    have hnn : ∀ (W : World) (g c' n' : Nat), Sem.run Try.prog (binOp .eql 35 (.slice (some ⟨g, 0, none⟩) n' c') (.slice none 0 0)) W = .ok (.bool false) W := fun W g c' n' => by kernel_rfl
                    clear hre
                    go_upto_region 19 with (first | (go_at_call 68; (with_reducible refine (HLn.out _ HB.out).mono ?_); rintro e w63 ⟨v63, rfl, hr_, hn_, hb_⟩; obtain ⟨gr, cr, rfl, _, _, _⟩ := Kd.R_form hr_ (by have := HRN.out; omega); have RW3 := Aside0.mk hr_; have SO3 := Aside0.mk (Kd.S_below SOb.out hb_); have HB3 := Aside0.mk (below_step HB.out hb_); clear hr_ hn_ hb_) | ((with_reducible refine gate_dst (N := 13) rfl ?_); refine box_event ?hg (N := 13) ?hd (cs := #[.slice none 0 0]) (t := 35) ?hr ?_; (case hd => rfl); (case hg => rfl); (case hr => first | (go_simp; done) | (go_simp; rfl)); intro g13 hg13 wg13 hbox hb; have hbb := Man.below_one hg13 hb (.slice (some ⟨gr, 0, none⟩) r.length cr); have SO4 := Aside0.mk (Kd.S_below SO3.out hbb); have RW4 := Aside0.mk (Kd.R_below RW3.out hbb); have HB4 := Aside0.mk (below_step HB3.out hbb); have BK13 := Aside0.mk (blk_put (cs' := #[.slice (some ⟨gr, 0, none⟩) r.length cr]) hbox 0 (.slice (some ⟨gr, 0, none⟩) r.length cr) rfl); have hc13 : wg13.cell? ⟨g13, 0, none⟩ = some (.slice none 0 0) := (blk_cell hbox 0).trans rfl; have hf13 := blk_frozen hbox 0; clear hbox hb hg13 hbb))
                    generalize (wg13.setCell ⟨g13, 0, none⟩ (.slice (some ⟨gr, 0, none⟩) r.length cr)) = W4 at SO4 RW4 HB4 BK13 ⊢
                    have c13 : W4.cell? ⟨g13, 0, none⟩ = some (.slice (some ⟨gr, 0, none⟩) r.length cr) := (blk_cell BK13.out 0).trans rfl
                    clear hc13 hf13 RW3 SO3 HB3
                    have eg1 := enters_of Try.func70 (by kernel_rfl) rfl
                    have eg2 := enters_of Try.func71 (by kernel_rfl) rfl
                    have HF1 := Aside0.mk (ContainsFunc (fun x => decide (wd r x < 0)) 70 #[.pointer (some ⟨g13, 0, none⟩)] eg1 (some ⟨gB, 0, none⟩) cB bs W4 (clo1 g13 (some ⟨gr, 0, none⟩) cr r (wd r) kd W4 BK13.out (Kd.R_reads' RW4.out).2.2 (Kd.R_reads' RW4.out).2.1 bs HWd2.out) (by have h := Kd.C_below HC1.out.2 HB4.out; rw [HNE.out] at h; exact h))
                    rw [← HNE.out] at HF1
                    have HF2 := Aside0.mk (fun W (hb : Below W4.heap.size W4 W) => ContainsFunc (fun x => decide (x = r)) 71 #[.pointer (some ⟨g13, 0, none⟩)] eg2 Ao co o W (clo2 g13 (some ⟨gr, 0, none⟩) cr r W (blk_below BK13.out hb) (Kd.C_below (Kd.R_reads' RW4.out).2.2 hb) HRN.out o HOL.out.2) (Kd.S_reads' (Kd.S_below SO4.out hb)).2.2)
                    clear eg1 eg2
                    obtain ⟨a1, ha1⟩ : ∃ a1, a1 = (bs.any fun x => decide (wd r x < 0)) := ⟨_, rfl⟩
                    rw [← ha1] at HF1 HST2
                    cases a1 with
                    | true =>
                      have HEq := Aside0.mk (show oN = o by rw [HST2.out, if_pos rfl])
                      clear ha1
                      go_wp2_with (first | (go_at_call 69; (with_reducible refine HF1.out.mono ?_); rintro e w5 ⟨rfl, hb_⟩; have SO5 := Aside0.mk (Kd.S_below SO4.out hb_); have HB5 := Aside0.mk (below_step HB4.out hb_); clear hb_))
                      go_roundg k3
                      case measure => have := HKj.out; omega
                      case rel => exact ⟨j + 1, _, rfl, HZ1, ⟨by have := HKj.out; omega⟩, ⟨by rw [← HoN.out, HEq.out]; exact Kd.S_mono SO5.out (fun _ _ => trivial)⟩, HB5⟩
                    | false =>
                      obtain ⟨a2, ha2⟩ : ∃ a2, a2 = (o.any fun x => decide (x = r)) := ⟨_, rfl⟩
                      rw [← ha2] at HF2 HST2
                      cases a2 with
                      | true =>
                        have HEq := Aside0.mk (show oN = o by rw [HST2.out, if_neg (by decide), if_pos rfl])
                        clear ha1 ha2
                        go_wp2_with (first | (go_at_call 69; (with_reducible refine HF1.out.mono ?_); rintro e w5 ⟨rfl, hb_⟩; have HBx := Aside0.mk hb_; have SO5 := Aside0.mk (Kd.S_below SO4.out hb_); have HB5 := Aside0.mk (below_step HB4.out hb_); clear hb_) | (go_at_call 69; (with_reducible refine (HF2.out _ HBx.out).mono ?_); rintro e w6 ⟨rfl, hb_⟩; have SO6 := Aside0.mk (Kd.S_below SO5.out hb_); have HB6 := Aside0.mk (below_step HB5.out hb_); clear hb_))
                        go_roundg k3
                        case measure => have := HKj.out; omega
                        case rel => exact ⟨j + 1, _, rfl, HZ1, ⟨by have := HKj.out; omega⟩, ⟨by rw [← HoN.out, HEq.out]; exact Kd.S_mono SO6.out (fun _ _ => trivial)⟩, HB6⟩
                      | false =>
                        have HEq := Aside0.mk (show oN = o ++ [r] by rw [HST2.out, if_neg (by decide), if_neg (by decide)])
                        clear ha1 ha2
                        go_wp2_with (first | (go_at_call 69; (with_reducible refine HF1.out.mono ?_); rintro e w5 ⟨rfl, hb_⟩; have HBx := Aside0.mk hb_; have SO5 := Aside0.mk (Kd.S_below SO4.out hb_); have RW5 := Aside0.mk (Kd.R_below RW4.out hb_); have BK5 := Aside0.mk (blk_below BK13.out hb_); have HB5 := Aside0.mk (below_step HB4.out hb_); clear hb_) | (go_at_call 69; (with_reducible refine (HF2.out _ HBx.out).mono ?_); rintro e w6 ⟨rfl, hb_⟩; have SO6 := Aside0.mk (Kd.S_below SO5.out hb_); have RW6 := Aside0.mk (Kd.R_below RW5.out hb_); have BK6 := Aside0.mk (blk_below BK5.out hb_); have HB6 := Aside0.mk (below_step HB5.out hb_); have c6 : w6.cell? ⟨g13, 0, none⟩ = some (.slice (some ⟨gr, 0, none⟩) r.length cr) := (blk_cell BK6.out 0).trans rfl; clear hb_) | ((with_reducible refine gate_builtin (b := .append) (xs := #[.tmp 75, .tmp 77]) rfl ?_); at_builtin; refine Kd.S_append KS (w0 := W1) W1.heap.size rfl (.tmp 75) (.tmp 77) 45 35 (.slice none 0 0) 24 rfl Try.underlying45 info35 rfl (by decide) (by omega) (.slice Ao o.length co) o r [.slice (some ⟨gr, 0, none⟩) r.length cr] (fun _ => True) (fun k_ => some k_ = (.slice (some ⟨gr, 0, none⟩) r.length cr : Value).ownBlock) rfl rfl ?aP ?aK (fun _ _ => trivial) ?aO ?aB ?aS ?aL ?_; (case aP => exact Kd.M_row (Kd.R_tight rfl (Kd.R_lower RW6.out (below_size HB.out)))); (case aK => exact fun k_ hk_ => ⟨trivial, by obtain ⟨_, hc_⟩ := Kd.R_typed RW6.out k_ hk_.symm; exact Kd.S_ne SO6.out hc_ (by decide)⟩); (case aO => exact Kd.S_mono SO6.out (fun k_ hk_ => ⟨trivial, fun e_ => absurd (Kd.R_base RW6.out k_ e_.symm) (by omega)⟩)); (case aB => exact HB6.out); (case aS => exact below_size HB6.out); (case aL => have := HOL.out.1; omega); intro v78 w78 ho hb hg hat; have SO7 := Aside0.mk ho; have HB7 := Aside0.mk hb; clear ho hb hg hat))
                        go_roundg k3
                        case measure => have := HKj.out; omega
                        case rel => exact ⟨j + 1, _, rfl, HZ1, ⟨by have := HKj.out; omega⟩, ⟨by rw [← HoN.out, HEq.out]; exact SO7.out⟩, HB7⟩
    | succ k1 =>
      have y0 : 0 ≤ y := by have := HJ.out; omega
      have yl : y < (l.length : Int) := by have := HJ.out; have := HK.out; omega
      have yn : decide (y < (l.length : Int)) = true := decide_eq_true yl
      have HJ1 := Aside0.mk (show wrap64 (y + 1) = ((j + 1 : Nat) : Int) by have := HJ.out; have := HK.out; have := HL.out; unfold wrap64; omega)
      obtain ⟨ad, e1, x0, x1, x2⟩ := at_T29 HR.out y y0 yl
      cases e1
      replace x0 := (HB.out.cell (World.block_lt_of_cell? w _ x0)).trans x0
      replace x1 := (HB.out.cell (World.block_lt_of_cell? w _ x1)).trans x1
      replace x2 := (HB.out.cell (World.block_lt_of_cell? w _ x2)).trans x2
      obtain ⟨s, hs⟩ : ∃ s, s = rd_T29 l y := ⟨_, rfl⟩
      rw [← hs] at x0 x1 x2
      have hjl : j < l.length := by have := HK.out; omega
      have hsg : l[j] = s := by
        rw [hs]
        unfold rd_T29
        rw [List.getD_eq_getElem?_getD, HJ.out, Int.toNat_natCast, List.getElem?_eq_getElem hjl]
        rfl
      have htk : l.take (j + 1) = l.take j ++ [s] := by rw [List.take_succ_eq_append_getElem hjl, hsg]
      have HSM := Aside0.mk (show s ∈ l by rw [← hsg]; exact List.getElem_mem hjl)
      have HLen := Aside0.mk (show (bsL rw (l.take j)).length ≤ 10 by
        unfold bsL
        rw [List.length_append, List.length_map]
        have h1 := List.length_filter_le (fun s : S29 => s.f0 != 1) (l.take j)
        have h2 := List.length_take_le j l
        have h3 := HK.out
        have h4 := HL.out
        show 4 + _ ≤ 10
        omega)
      by_cases hf : s.f0 = 1
      · have HBS := Aside0.mk (show bsL rw (l.take j) = bsL rw (l.take (j + 1)) by unfold bsL; rw [htk, List.filter_append]; simp [hf])
        have f0 : (s.f0 != 1) = false := by rw [hf]; rfl
        clear hs hsg htk hf hjl
        go_upto_region 5 with (first | ((with_reducible refine gate_dst (N := 5) rfl ?_); refine box_event ?hg (N := 5) ?hd (cs := #[.int .i64 0, .int .i64 0, .int .i64 0]) (t := 29) ?hr ?_; (case hd => rfl); (case hg => rfl); (case hr => first | (go_simp; done) | (go_simp; rfl)); intro g5 hg5 wg5 hbox hb; have hbb := Man.below_beside (Below.refl wr.heap.size wr) hg5 hb (.int .i64 s.f0) (.int .i64 s.f1) (.int .i64 s.f2); have RB5 := Aside0.mk (Kd.R_below RB.out hbb); have HB5 := Aside0.mk (below_step HB.out hbb); have BK5 := Aside0.mk (blk_put (cs' := #[.int .i64 s.f0, .int .i64 s.f1, .int .i64 s.f2]) (blk_put (cs' := #[.int .i64 s.f0, .int .i64 s.f1, .int .i64 0]) (blk_put (cs' := #[.int .i64 s.f0, .int .i64 0, .int .i64 0]) hbox 0 (.int .i64 s.f0) rfl) 1 (.int .i64 s.f1) rfl) 2 (.int .i64 s.f2) rfl); have hc5_0 : wg5.cell? ⟨g5, 0, none⟩ = some (.int .i64 0) := (blk_cell hbox 0).trans rfl; have hf5_0 := blk_frozen hbox 0; have hc5_1 : wg5.cell? ⟨g5, 1, none⟩ = some (.int .i64 0) := (blk_cell hbox 1).trans rfl; have hf5_1 := blk_frozen hbox 1; have hc5_2 : wg5.cell? ⟨g5, 2, none⟩ = some (.int .i64 0) := (blk_cell hbox 2).trans rfl; have hf5_2 := blk_frozen hbox 2; clear hbox hb hg5 hbb))
        generalize (((wg5.setCell ⟨g5, 0, none⟩ (.int .i64 s.f0)).setCell ⟨g5, 1, none⟩ (.int .i64 s.f1)).setCell ⟨g5, 2, none⟩ (.int .i64 s.f2)) = W5 at BK5 RB5 HB5 ⊢
        have q0 : W5.cell? ⟨g5, 0, none⟩ = some (.int .i64 s.f0) := (blk_cell BK5.out 0).trans rfl
        clear hc5_0 hc5_1 hc5_2 hf5_0 hf5_1 hf5_2
        go_wp2
        go_roundg k1
        case measure => have := HK.out; omega
        case rel => exact ⟨j + 1, wrap64 (y + 1), rfl, HJ1, ⟨by have := HK.out; omega⟩, by rw [HBS.out] at RB5; exact RB5, HB5⟩
      · have HBS := Aside0.mk (show bsL rw (l.take j) ++ [rw s] = bsL rw (l.take (j + 1)) by unfold bsL; rw [htk, List.filter_append, List.map_append, ← List.append_assoc]; congr 1; simp [hf])
        have f0 : (s.f0 != 1) = true := bne_iff_ne.2 hf
        have HW := Aside0.mk (fun W => impl_weightsOf.calls kw s.f0 s.f1 s.f2 (rw s) W (HRW.out s HSM.out hf))
        have HR4 := Aside0.mk (show (rw s).length = 4 from H4.out (rw s) (by rw [HBS0.out]; unfold bsL; exact List.mem_append_right _ (List.mem_map.2 ⟨s, List.mem_filter.2 ⟨HSM.out, f0⟩, rfl⟩)))
        clear hs hsg htk hf hjl
        go_upto_region 5 with (first | ((with_reducible refine gate_dst (N := 5) rfl ?_); refine box_event ?hg (N := 5) ?hd (cs := #[.int .i64 0, .int .i64 0, .int .i64 0]) (t := 29) ?hr ?_; (case hd => rfl); (case hg => rfl); (case hr => first | (go_simp; done) | (go_simp; rfl)); intro g5 hg5 wg5 hbox hb; have hbb := Man.below_beside (Below.refl wr.heap.size wr) hg5 hb (.int .i64 s.f0) (.int .i64 s.f1) (.int .i64 s.f2); have RB5 := Aside0.mk (Kd.R_below RB.out hbb); have HB5 := Aside0.mk (below_step HB.out hbb); have BK5 := Aside0.mk (blk_put (cs' := #[.int .i64 s.f0, .int .i64 s.f1, .int .i64 s.f2]) (blk_put (cs' := #[.int .i64 s.f0, .int .i64 s.f1, .int .i64 0]) (blk_put (cs' := #[.int .i64 s.f0, .int .i64 0, .int .i64 0]) hbox 0 (.int .i64 s.f0) rfl) 1 (.int .i64 s.f1) rfl) 2 (.int .i64 s.f2) rfl); have hc5_0 : wg5.cell? ⟨g5, 0, none⟩ = some (.int .i64 0) := (blk_cell hbox 0).trans rfl; have hf5_0 := blk_frozen hbox 0; have hc5_1 : wg5.cell? ⟨g5, 1, none⟩ = some (.int .i64 0) := (blk_cell hbox 1).trans rfl; have hf5_1 := blk_frozen hbox 1; have hc5_2 : wg5.cell? ⟨g5, 2, none⟩ = some (.int .i64 0) := (blk_cell hbox 2).trans rfl; have hf5_2 := blk_frozen hbox 2; clear hbox hb hg5 hbb))
        generalize (((wg5.setCell ⟨g5, 0, none⟩ (.int .i64 s.f0)).setCell ⟨g5, 1, none⟩ (.int .i64 s.f1)).setCell ⟨g5, 2, none⟩ (.int .i64 s.f2)) = W5 at BK5 RB5 HB5 ⊢
        have q0 : W5.cell? ⟨g5, 0, none⟩ = some (.int .i64 s.f0) := (blk_cell BK5.out 0).trans rfl
        have q1 : W5.cell? ⟨g5, 1, none⟩ = some (.int .i64 s.f1) := (blk_cell BK5.out 1).trans rfl
        have q2 : W5.cell? ⟨g5, 2, none⟩ = some (.int .i64 s.f2) := (blk_cell BK5.out 2).trans rfl
        clear hc5_0 hc5_1 hc5_2 hf5_0 hf5_1 hf5_2
        go_wp2_with (first | (go_at_call 65; (with_reducible refine (HW.out _).mono ?_); rintro e w6 ⟨v30, rfl, hr_, hb_⟩; obtain ⟨P30, p30, rfl⟩ := Kd.R_slice hr_; have RW6 := Aside0.mk (Kd.R_lower hr_ (below_size HB5.out)); have RB6 := Aside0.mk (Kd.R_below RB5.out hb_); have HB6 := Aside0.mk (below_step HB5.out hb_); clear hr_ hb_) | ((with_reducible refine gate_builtin (b := .append) (xs := #[.tmp 28, .tmp 31]) rfl ?_); at_builtin; refine Kd.R_append KS (w0 := w) w.heap.size rfl (.tmp 28) (.tmp 31) 45 35 (.slice none 0 0) 24 rfl Try.underlying45 info35 rfl (by decide) (by omega) _ (bsL rw (l.take j)) (rw s) [.slice P30 (rw s).length p30] (fun _ => True) (fun k_ => some k_ = (.slice P30 (rw s).length p30 : Value).ownBlock) rfl rfl ?aP ?aK (fun _ _ => trivial) ?aO ?aB ?aS ?aL ?_; (case aP => exact Kd.M_row (Kd.R_tight rfl RW6.out)); (case aK => exact fun k_ hk_ => ⟨trivial, by obtain ⟨_, hc_⟩ := Kd.R_typed RW6.out k_ hk_.symm; exact Kd.R_ne RB6.out hc_ (by decide)⟩); (case aO => exact RB6.out); (case aB => exact HB6.out); (case aS => exact below_size HB6.out); (case aL => have := HLen.out; omega); intro v32 w32 ho hb hg hat; rw [HBS.out] at ho; have RB7 := Aside0.mk ho; have HB7 := Aside0.mk hb; clear ho hb hg hat))
        go_roundg k1
        case measure => have := HK.out; omega
        case rel => exact ⟨j + 1, wrap64 (y + 1), rfl, HJ1, ⟨by have := HK.out; omega⟩, RB7, HB7⟩
end
end Go.Proofs.Ytmbninbecclbiaa.ManR
