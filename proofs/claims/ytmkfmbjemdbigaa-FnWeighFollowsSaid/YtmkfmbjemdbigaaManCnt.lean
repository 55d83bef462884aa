/- impl.countsFor; no condition but that the sentences compare numbers and are six at most. -/
import Derived.Test.YtmkfmbjemdbigaaManCorA
import Derived.Test.YtmkfmbjemdbigaaPAx10
namespace Go.Proofs.Ytmkfmbjemdbigaa.ManR
open Go.RowKit Go.Proofs.Ytmkfmbjemdbigaa.PA Go.Proofs.YtmkfmbjemdbigaaW.PrintWords Go.Proofs.YtmkfmbjemdbigaaW.PrintLast Go.Proofs.YtmkfmbjemdbigaaW.PrintMore
set_option linter.unusedVariables false
set_option linter.unusedSimpArgs false

/-- The sum of rows. -/
def addR (s r : List Int) (j : Nat) : List Int := List.zipWith (· + ·) (s.take j) (r.take j) ++ s.drop j
def sumN (o : List (List Int)) : Nat → List Int
  | 0 => [0, 0, 0, 0]
  | i + 1 => addR (sumN o i) (rd_L5 o (i : Int)) 4
theorem addR_len (s r : List Int) (hs : s.length = 4) (hr : r.length = 4) (j : Nat) (hj : j ≤ 4) : (addR s r j).length = 4 := by unfold addR; simp; omega
theorem addR_next (s r : List Int) (hs : s.length = 4) (hr : r.length = 4) (j : Nat) (hj : j < 4) : rd (addR s r j) (j : Int) = rd s (j : Int) ∧ (addR s r j).set j (rd s (j : Int) + rd r (j : Int)) = addR s r (j + 1) := by
  match s, hs, r, hr with
  | [a, b, c, d], _, [x, y, z, u], _ =>
    have e : j = 0 ∨ j = 1 ∨ j = 2 ∨ j = 3 := by omega
    rcases e with rfl | rfl | rfl | rfl <;> exact ⟨rfl, rfl⟩
theorem sumN_len (o : List (List Int)) (h : ∀ x ∈ o, x.length = 4) : ∀ i, i ≤ o.length → (sumN o i).length = 4
  | 0, _ => rfl
  | i + 1, hi => addR_len _ _ (sumN_len o h i (by omega)) (h _ (mem_rd o _ (by omega) (by omega))) 4 (by omega)
theorem sumN_bound (o : List (List Int)) (h : ∀ x ∈ o, x.length = 4) (hb : ∀ x ∈ o, ∀ y ∈ x, -6 ≤ y ∧ y ≤ 6) : ∀ i, i ≤ o.length → ∀ y ∈ sumN o i, -6 * (i : Int) ≤ y ∧ y ≤ 6 * (i : Int)
  | 0, _ => by intro y hy; simp [sumN] at hy; omega
  | i + 1, hi => by
    have ih := sumN_bound o h hb i (by omega)
    have hl := sumN_len o h i (by omega)
    have hm := mem_rd o (i : Int) (by omega) (by omega)
    have h4 := h _ hm
    have h6 := hb _ hm
    show ∀ y ∈ addR (sumN o i) (rd_L5 o (i : Int)) 4, _
    generalize sumN o i = s at ih hl
    generalize rd_L5 o (i : Int) = r at h4 h6
    match s, hl, r, h4 with
    | [a, b, c, d], _, [x, y, z, u], _ =>
      intro v hv
      have e : addR [a, b, c, d] [x, y, z, u] 4 = [a + x, b + y, c + z, d + u] := rfl
      rw [e] at hv
      have a1 := ih a (by simp)
      have a2 := ih b (by simp)
      have a3 := ih c (by simp)
      have a4 := ih d (by simp)
      have b1 := h6 x (by simp)
      have b2 := h6 y (by simp)
      have b3 := h6 z (by simp)
      have b4 := h6 u (by simp)
      rcases (show v = a + x ∨ v = b + y ∨ v = c + z ∨ v = d + u by simpa using hv) with e | e | e | e <;> omega
def sumL (o : List (List Int)) : List Int := sumN o o.length
/-- Is a sentence so for numbers? -/
def wsB (n : List Int) (s : S25) : Bool := if Sem.strictB s.f0.toNat = true then decide (0 < Sem.dotL n (rwS s)) else decide (0 ≤ Sem.dotL n (rwS s))
def cntA (l : List S25) : List Int × Bool := if (l.any fun s => !(wsB (sumL (cornersI l)) s)) = true then ([], false) else (sumL (cornersI l), true)
def cntF (l : List S25) : Option (List Int × Bool) := if Man.weighedB l = true then some (cntA l) else none
/-- The closure that looks for a sentence that is not so. -/
theorem clo3 (B : Nat) (A : Option Addr) (c : Nat) (sum : List Int) (kw : Nat) (ws : S25 → Bool) (w : World) (l : List S25) (hbk : w.heap[B]? = some (.cells #[.slice A sum.length c] 29 (0, 0))) (hr : Kd.C (Kd.int .i64) w A sum.length sum) (hc : sum.length ≤ c) (hw : ∀ s ∈ l, impl_weighSo.f kw sum s.f0 s.f1 s.f2 = some (ws s)) :
    Man.PredSay 47 #[.pointer (some ⟨B, 0, none⟩)] (fun x => !ws x) w l := by
  intro W x hx hb
  have HB := Aside0.mk (Below.refl W.heap.size W)
  have HC := Aside0.mk (fun W' (hb' : Below W.heap.size W W') => impl_weighSo.calls kw A c sum x.f0 x.f1 x.f2 (ws x) W' (Kd.C_below (Kd.C_below hr hb) hb') hc (hw x hx))
  have BK := Aside0.mk (blk_below hbk hb)
  obtain ⟨q, hq⟩ : ∃ q, q = ws x := ⟨_, rfl⟩
  rw [← hq] at HC
  have HQ := Aside0.mk hq
  clear hq hbk hr hc hw hb hx
  show Calls Try.prog 47 #[.agg #[.int .i64 x.f0, .int .i64 x.f1, .int .i64 x.f2], .pointer (some ⟨B, 0, none⟩)] W _
  go_enter Try.func47, Try.ntmps47
  go_wp2_with (first| ((with_reducible refine gate_dst (N := 2) rfl ?_); refine box_event ?hg (N := 2) ?hd (cs := #[.int .i64 x.f0, .int .i64 x.f1, .int .i64 x.f2]) (t := 25) ?hr ?_; (case hd => rfl); (case hg => rfl); (case hr => (go_simp; done)); intro g2 hg2 wg2 hbox hb; have HB2 := Aside0.mk hb; have q0 : wg2.cell? ⟨g2, 0, none⟩ = some (.int .i64 x.f0) := (blk_cell hbox 0).trans rfl; have q1 : wg2.cell? ⟨g2, 1, none⟩ = some (.int .i64 x.f1) := (blk_cell hbox 1).trans rfl; have q2 : wg2.cell? ⟨g2, 2, none⟩ = some (.int .i64 x.f2) := (blk_cell hbox 2).trans rfl; have c0 : wg2.cell? ⟨B, 0, none⟩ = some (.slice A sum.length c) := (blk_cell (blk_below BK.out hb) 0).trans rfl; clear hbox hb hg2) | (go_at_call 25; (with_reducible refine (HC.out _ HB2.out).mono ?_); rintro e w3 ⟨rfl, hb_⟩; have HB3 := Aside0.mk (below_step HB2.out hb_); clear hb_))
  go_ret
  exact ⟨by rw [← HQ.out]; rfl, HB3.out⟩

section
variable (A : Option Addr) (c : Nat) (l : List S25) (w : World)
set_option maxHeartbeats 8000000 in
set_option maxRecDepth 100000 in
theorem countsFor (kw : Nat) (o : List (List Int)) (ws : S25 → Bool) (hr : Kd.C k25 w A l.length l) (hco : corF l = some o) (h4 : ∀ x ∈ o, x.length = 4) (h6 : ∀ x ∈ o, ∀ y ∈ x, -6 ≤ y ∧ y ≤ 6) (hol : o.length ≤ 1000) (hws : ∀ s ∈ l, impl_weighSo.f kw (sumL o) s.f0 s.f1 s.f2 = some (ws s)) (b : Bool) (hbe : (l.any fun s => !(ws s)) = b) (T : List Int) (hT : T = if b = true then [] else sumL o) :
    Calls Try.prog 33 #[.slice A l.length c] w fun e w' => ∃ v, e = .returned (.tuple #[v, .bool (!b)]) ∧ Kd.R (Kd.int .i64) 3 w' w.heap.size (fun _ => True) v T ∧ Below w.heap.size w w' := by
  have HR := Aside0.mk hr
  have H4 := Aside0.mk h4
  have H6 := Aside0.mk h6
  have HOL := Aside0.mk hol
  have HWS := Aside0.mk hws
  have HC := Aside0.mk (fun W (hb : Below w.heap.size w W) => cornersOf_calls A c l o W (Kd.C_below hr hb) hco)
  have HB0 := Aside0.mk (Below.refl w.heap.size w)
  have HBE := Aside0.mk hbe
  have HTT := Aside0.mk hT
  clear hr h4 h6 hol hws hco hbe hT
  go_enter Try.func33, Try.ntmps33
  go_upto_region 2 with (first| ((with_reducible refine gate_dst (N := 9) rfl ?_); refine Kd.R_make (Kd.int .i64) _ 3 rfl (N := 9) rfl 29 _ _ rfl 4 rfl rfl Try.underlying29 (.int .i64 0) 8 info3 rfl (by decide) (by omega) 0 (ok := fun _ => True) (okp := fun _ => True) rfl (fun _ hk => hk) trivial (by omega) (by omega) (Below.refl _ _) (Nat.le_refl _) ?_; intro v9 w9 ho hb hg_ hnew_; clear hg_ hnew_; have RS0 := Aside0.mk (show Kd.R (Kd.int .i64) 3 w9 w.heap.size (fun _ => True) v9 [0, 0, 0, 0] from ho); have HB9 := Aside0.mk hb; obtain ⟨gs, cs, rfl, hgs_, hgl_, _⟩ := Kd.R_form ho (by decide); have GS := Aside0.mk hgs_; clear ho hb hgs_ hgl_) | ((with_reducible refine gate_dst (N := 4) rfl ?_); refine box_event ?hg (N := 4) ?hd (cs := #[.slice none 0 0]) (t := 29) ?hr ?_; (case hd => rfl); (case hg => rfl); (case hr => (go_simp; done)); intro g4 hg4 wg4 hbox hb; have hbb := Man.below_one hg4 hb (.slice (some ⟨gs, 0, none⟩) 4 cs); have RS1 := Aside0.mk (Kd.R_below RS0.out hbb); have HB1 := Aside0.mk (below_step HB9.out hbb); have BK1 := Aside0.mk (blk_put (cs' := #[.slice (some ⟨gs, 0, none⟩) 4 cs]) hbox 0 (.slice (some ⟨gs, 0, none⟩) 4 cs) rfl); have hc4 : wg4.cell? ⟨g4, 0, none⟩ = some (.slice none 0 0) := (blk_cell hbox 0).trans rfl; have hf4 := blk_frozen hbox 0; clear hbox hb hg4 hbb))
  generalize (wg4.setCell ⟨g4, 0, none⟩ (.slice (some ⟨gs, 0, none⟩) 4 cs)) = W1 at RS1 HB1 BK1 ⊢
  have HM := Aside0.mk (show gs < W1.heap.size ∧ g4 < W1.heap.size ∧ g4 ≠ gs from ⟨Kd.R_lt RS1.out gs rfl, blk_lt BK1.out, fun e => by subst e; exact Kd.R_ne RS1.out BK1.out (by decide) rfl⟩)
  clear hc4 hf4 RS0 HB9 HB0
  obtain ⟨no, hno⟩ : ∃ no, no = o.length := ⟨_, rfl⟩
  have HNO := Aside0.mk hno
  clear hno
  go_wp2_with ((go_at_call 46; (with_reducible refine (HC.out _ HB1.out).mono ?_); rintro e w2 ⟨v11, rfl, hs_, hb_⟩; obtain ⟨Ao, co, rfl⟩ := Kd.S_slice hs_; have SO := Aside0.mk (show Kd.S KS 29 w2 W1.heap.size (fun k_ => W1.heap.size ≤ k_) (.slice Ao o.length co) o from Kd.S_mono (Kd.S_bound hs_) (fun _ hk => hk.2.1)); have RS2 := Aside0.mk (Kd.R_below RS1.out hb_); have BK2 := Aside0.mk (blk_below BK1.out hb_); have HB2 := Aside0.mk (below_step HB1.out hb_); rw [← HNO.out] at SO ⊢; clear hs_ hb_))
  go_loopg [13] no (fun kq v13 w' => ∃ (i : Nat) (x : Int), v13 = .int .i64 x ∧ Aside0 (x = (i : Int)) ∧ Aside0 (i + kq = no) ∧ Aside0 (Kd.R (Kd.int .i64) 3 w' w.heap.size (fun _ => True) (.slice (some ⟨gs, 0, none⟩) 4 cs) (sumN o i)) ∧ Aside0 (Kd.S KS 29 w' W1.heap.size (fun k_ => W1.heap.size ≤ k_) (.slice Ao no co) o) ∧ Aside0 (w'.heap[g4]? = some (.cells #[.slice (some ⟨gs, 0, none⟩) 4 cs] 29 (0, 0))) ∧ Aside0 (Below w.heap.size w w'))
  case atStart => exact ⟨0, 0, rfl, ⟨rfl⟩, ⟨Nat.zero_add _⟩, RS2, SO, BK2, HB2⟩
  case round =>
    clear RS1 RS2 SO BK1 BK2 HB1 HB2
    obtain ⟨i, x, rfl, HI, HK, RS, SO, BK, HB⟩ := hrel
    cases gk with
    | zero =>
      have xn : decide (x < (no : Int)) = false := decide_eq_false (by have := HI.out; have := HK.out; omega)
      have HF := Aside0.mk (show i = no by have := HK.out; omega)
      obtain ⟨S, hS⟩ : ∃ S, S = sumL o := ⟨_, rfl⟩
      have RSS := Aside0.mk (show Kd.R (Kd.int .i64) 3 wr w.heap.size (fun _ => True) (.slice (some ⟨gs, 0, none⟩) 4 cs) S by have := RS.out; rw [HF.out, HNO.out] at this; rw [hS]; exact this)
      have hS4 : S.length = 4 := by rw [hS]; exact sumN_len o H4.out o.length (Nat.le_refl _)
      obtain ⟨q1_, q2_, q3_⟩ := Kd.R_reads' RSS.out
      have eg := enters_of Try.func47 (by kernel_rfl) rfl
      have hws := HWS.out
      rw [← hS] at hws
      have HF2 := Aside0.mk (fun W' (hb : Below wr.heap.size wr W') => Man.ContainsFunc (fun x => !ws x) 47 #[.pointer (some ⟨g4, 0, none⟩)] eg A c l W' (clo3 g4 (some ⟨gs, 0, none⟩) cs S kw ws W' l (by rw [hS4]; exact blk_below BK.out hb) (Kd.C_below q3_ hb) (by rw [hS4]; exact q2_) hws) (Kd.C_below HR.out (below_step HB.out hb)))
      have c4 : wr.cell? ⟨g4, 0, none⟩ = some (.slice (some ⟨gs, 0, none⟩) 4 cs) := (blk_cell BK.out 0).trans rfl
      have HSE := Aside0.mk hS
      have HBR := Aside0.mk (Below.refl wr.heap.size wr)
      have HF3 := Aside0.mk (show ∀ W', Below wr.heap.size wr W' → _ from HF2.out)
      clear eg hS hS4 q1_ q2_ q3_ hws HF2
      rw [HBE.out] at HF3
      cases b with
      | true =>
        go_wp2_with ((go_at_call 31; (with_reducible refine (HF3.out _ HBR.out).mono ?_); rintro e w3 ⟨rfl, hb_⟩; have HB3 := Aside0.mk (below_step HB.out hb_); clear hb_))
        go_ret2
        exact ⟨_, rfl, by rw [show T = [] from HTT.out]; exact Kd.R_nil _ _ _ _ _, HB3.out⟩
      | false =>
        go_wp2_with ((go_at_call 31; (with_reducible refine (HF3.out _ HBR.out).mono ?_); rintro e w3 ⟨rfl, hb_⟩; have HB3 := Aside0.mk (below_step HB.out hb_); have R3 := Aside0.mk (Kd.R_below RSS.out hb_); have c43 : w3.cell? ⟨g4, 0, none⟩ = some (.slice (some ⟨gs, 0, none⟩) 4 cs) := (blk_cell (blk_below BK.out hb_) 0).trans rfl; clear hb_))
        go_ret2
        exact ⟨_, rfl, by rw [show T = sumL o from HTT.out, ← HSE.out]; exact R3.out, HB3.out⟩

    | succ k1 =>
      have x0 : 0 ≤ x := by have := HI.out; omega
      have xl : x < (no : Int) := by have := HI.out; have := HK.out; omega
      have xn : decide (x < (no : Int)) = true := decide_eq_true xl
      have HI1 := Aside0.mk (show wrap64 (x + 1) = ((i + 1 : Nat) : Int) by have := HI.out; have := HK.out; have := HNO.out; have := HOL.out; unfold wrap64; omega)
      obtain ⟨gk_, capk_, he_, _, _, _⟩ := Kd.S_form SO.out (by have := HNO.out; omega)
      rw [← HNO.out] at he_
      injection he_ with hA_ hn_ hc_
      subst hA_; subst hc_; clear hn_
      obtain ⟨cs_, hcl_, hM_, hcc_⟩ := Kd.S_get SO.out ([] : List Int) x x0 xl
      obtain ⟨r, hr⟩ : ∃ r, r = rd_L5 o x := ⟨_, rfl⟩
      have HRM := Aside0.mk (show r ∈ o by rw [hr]; exact mem_rd o x x0 (by have := HNO.out; omega))
      have HS1 := Aside0.mk (show sumN o (i + 1) = addR (sumN o i) r 4 by rw [hr, HI.out]; rfl)
      have r4 := H4.out r HRM.out
      have HR4 := Aside0.mk r4
      rw [show o.getD x.toNat [] = r from hr.symm] at hM_
      obtain ⟨u_, rfl, hR_⟩ := hM_
      obtain ⟨gr, cr, rfl, _, _, _⟩ := Kd.R_form hR_ (by omega)
      have q6 := hcc_ 0 _ rfl
      rw [Nat.add_zero, show (KS).sz = 1 from rfl, Nat.mul_one, add_plain, r4] at q6
      rw [r4] at hR_
      have RR := Aside0.mk (show Kd.R (Kd.int .i64) 3 wr W1.heap.size (fun k_ => W1.heap.size ≤ k_) (.slice (some ⟨gr, 0, none⟩) 4 cr) r from Kd.R_mono hR_ (fun _ hk => hk.1))
      obtain ⟨s, hs⟩ : ∃ s, s = sumN o i := ⟨_, rfl⟩
      rw [← hs] at RS HS1
      have HSL := Aside0.mk (show s.length = 4 by rw [hs]; exact sumN_len o H4.out i (by have := HK.out; have := HNO.out; omega))
      have HSB := Aside0.mk (show ∀ y ∈ s, -6 * (i : Int) ≤ y ∧ y ≤ 6 * (i : Int) by rw [hs]; exact sumN_bound o H4.out H6.out i (by have := HK.out; have := HNO.out; omega))
      have HR6 := Aside0.mk (H6.out r HRM.out)
      have px0 := eq_true x0
      have pxl := eq_true xl
      clear hr hs r4 hcc_ hcl_ hR_ x0 xl
      go_wp2
      go_loopg [19] 4 (fun kq v19 w' => ∃ (j : Nat) (y : Int), v19 = .int .i64 y ∧ Aside0 (y = (j : Int)) ∧ Aside0 (j + kq = 4) ∧ Aside0 (Kd.R (Kd.int .i64) 3 w' w.heap.size (fun _ => True) (.slice (some ⟨gs, 0, none⟩) 4 cs) (addR s r j)) ∧ Aside0 (Kd.S KS 29 w' W1.heap.size (fun k_ => W1.heap.size ≤ k_) (.slice (some ⟨gk_, 0, none⟩) no co) o) ∧ Aside0 (Kd.R (Kd.int .i64) 3 w' W1.heap.size (fun k_ => W1.heap.size ≤ k_) (.slice (some ⟨gr, 0, none⟩) 4 cr) r) ∧ Aside0 (w'.heap[g4]? = some (.cells #[.slice (some ⟨gs, 0, none⟩) 4 cs] 29 (0, 0))) ∧ Aside0 (Below w.heap.size w w'))
      case atStart => exact ⟨0, 0, rfl, ⟨rfl⟩, ⟨rfl⟩, by rw [show addR s r 0 = s from rfl]; exact RS, SO, RR, BK, HB⟩
      case round =>
        clear RS SO RR BK HB q6
        obtain ⟨j, y, rfl, HJ, HKJ, RS, SO, RR, BK, HB⟩ := hrel
        cases gk with
        | zero =>
          have yn : decide (y < 4) = false := decide_eq_false (by have := HJ.out; have := HKJ.out; omega)
          have HF := Aside0.mk (show j = 4 by have := HKJ.out; omega)
          go_wp2
          go_roundg k1
          case measure => omega
          case rel =>
            refine ⟨i + 1, _, rfl, ⟨?_⟩, ⟨by have := HK.out; omega⟩, ⟨?_⟩, SO, BK, HB⟩
            · exact (by exact HI1.out)
            · rw [HS1.out]
              have := RS.out
              rw [HF.out] at this
              exact this
        | succ kj =>
          have y0 : 0 ≤ y := by have := HJ.out; omega
          have yl : y < 4 := by have := HJ.out; have := HKJ.out; omega
          have jl : j < 4 := by have := HKJ.out; omega
          have yn : decide (y < 4) = true := decide_eq_true yl
          have HJ1 := Aside0.mk (show wrap64 (y + 1) = ((j + 1 : Nat) : Int) by have := HJ.out; unfold wrap64; omega)
          obtain ⟨n1_, n2_⟩ := addR_next s r HSL.out HR4.out j jl
          rw [← HJ.out] at n1_ n2_
          have hjy : y.toNat = j := by have := HJ.out; omega
          obtain ⟨qr0, qr1⟩ := Kd.R_celln 0 RR.out y y0 (by omega)
          obtain ⟨qs0, fs⟩ := Kd.R_celln 0 RS.out y y0 (by omega)
          have qr : wr.cell? ⟨gr, y.toNat, none⟩ = some (.int .i64 (rd r y)) := qr0
          have qs : wr.cell? ⟨gs, y.toNat, none⟩ = some (.int .i64 (rd s y)) := by rw [← n1_]; exact qs0
          clear qr0 qr1 qs0
          have hv : wrap64 (rd s y + rd r y) = rd s y + rd r y := by
            have b1 := HSB.out (rd s y) (by rw [HJ.out, Sem.rd_at s j (by have := HSL.out; omega)]; exact List.getElem_mem _)
            have b2 := HR6.out (rd r y) (by rw [HJ.out, Sem.rd_at r j (by have := HR4.out; omega)]; exact List.getElem_mem _)
            have := HK.out; have := HNO.out; have := HOL.out
            unfold wrap64; omega
          have c4 : wr.cell? ⟨g4, 0, none⟩ = some (.slice (some ⟨gs, 0, none⟩) 4 cs) := (blk_cell BK.out 0).trans rfl
          have HV := Aside0.mk hv
          have HN2 := Aside0.mk (show (addR s r j).set y.toNat (rd s y + rd r y) = addR s r (j + 1) by rw [hjy]; exact n2_)
          have HP := Aside0.mk (Kd.R_putg RS.out y (wrap64 (rd s y + rd r y)))
          have HGF := Aside0.mk (show ∀ k, W1.heap.size ≤ k → k ≠ gs from fun k hk e => by have := HM.out.1; omega)
          have py0 := eq_true y0
          have pyl := eq_true yl
          clear hv n1_ n2_ hjy y0 yl jl
          go_wp2_with (((with_reducible refine gate_store (t := 3) (p := 30) rfl ?_); refine store_event (t := 3) (p := 30) (v := ?vo1) (w1 := (wr.setCell ⟨gs, y.toNat, none⟩ (.int .i64 (wrap64 (rd s y + rd r y))))) ?hg ?ho ?hn ?hr ?_; (case ho => rfl); (case hg => rfl); (case hn => rfl); (case hr => (go_simp; done)); intro w8 hw; have RS8 := Aside0.mk (show Kd.R (Kd.int .i64) 3 w8 w.heap.size (fun _ => True) (.slice (some ⟨gs, 0, none⟩) 4 cs) (addR s r (j + 1)) by rw [hw, ← HN2.out, HV.out]; have h_ := HP.out.1; rw [HV.out] at h_; exact h_); have SO8 := Aside0.mk (show Kd.S KS 29 w8 W1.heap.size (fun k_ => W1.heap.size ≤ k_) (.slice (some ⟨gk_, 0, none⟩) no co) o by rw [hw]; exact Kd.S_far SO.out (fun k hk => HGF.out k hk) _); have RR8 := Aside0.mk (show Kd.R (Kd.int .i64) 3 w8 W1.heap.size (fun k_ => W1.heap.size ≤ k_) (.slice (some ⟨gr, 0, none⟩) 4 cr) r by rw [hw]; exact Kd.R_far RR.out (fun k hk => HGF.out k hk) _); have BK8 := Aside0.mk (show w8.heap[g4]? = some (.cells #[.slice (some ⟨gs, 0, none⟩) 4 cs] 29 (0, 0)) by rw [hw]; exact (Below.heap_setCell wr _ _ g4 (HM.out.2.2)).trans BK.out); have HB8 := Aside0.mk (show Below w.heap.size w w8 by rw [hw]; exact below_set HB.out GS.out); clear hw))
          go_roundg kj
          case measure => omega
          case rel => exact ⟨j + 1, _, rfl, ⟨by exact HJ1.out⟩, ⟨by have := HKJ.out; omega⟩, RS8, SO8, RR8, BK8, HB8⟩
end
end Go.Proofs.Ytmkfmbjemdbigaa.ManR
