/- Rows of rows, and rows of sentences, from call to call; laws.markIntSS; no condition but that the rows are of four numbers. -/
import Derived.Test.YtmbninbecclbiaaManCorA
import Derived.Test.YtmbninbecclbiaaSemCorX
import Derived.Test.YtmbninbecclbiaaSemA
import Derived.Test.YtmbninbecclbiaaPAx34
import Derived.Test.YtmbninbecclbiaaPAx33
import Derived.Test.YtmbninbecclbiaaPAx13
import Derived.Test.YtmbninbecclbiaaPAx19
import Derived.Test.YtmbninbecclbiaaPAx1
import Derived.Test.YtmbninbecclbiaaPAx8
namespace Go.Proofs.Ytmbninbecclbiaa.ManR
open Go.RowKit Go.Proofs.Ytmbninbecclbiaa.PA Go.Proofs.YtmbninbecclbiaaW.PrintWords Go.Proofs.YtmbninbecclbiaaW.PrintLast Go.Proofs.YtmbninbecclbiaaW.PrintMore
set_option linter.unusedVariables false
set_option linter.unusedSimpArgs false
open Go.Proofs.Ytmbninbecclbiaa.Sem (markN mk4 conv)

/-- A row of rows, whose blocks are from lo on and below hi. -/
structure SB (w W : World) (lo hi : Nat) (v : Value) (xs : List (List Int)) : Prop where
  h : Kd.S (Kd.slice 3 (Kd.int .i64)) 35 W w.heap.size (fun k => lo ≤ k ∧ k < hi) v xs
structure XB (w W : World) (lo hi : Nat) (v : Value) (xs : List S29) : Prop where
  h : Kd.R k29 29 W w.heap.size (fun k => lo ≤ k ∧ k < hi) v xs
section
variable {w W W' : World} {lo hi : Nat} {v : Value} {xs : List (List Int)} {ys : List S29} {P : Nat → Prop}
theorem SB.make (h : Kd.S (Kd.slice 3 (Kd.int .i64)) 35 W' W.heap.size (fun _ => True) v xs) (hle : w.heap.size ≤ W.heap.size) : SB w W' W.heap.size W'.heap.size v xs :=
  ⟨Kd.S_lower (Kd.S_mono (Kd.S_bound h) (fun _ hk => ⟨hk.2.1, hk.2.2.1⟩)) hle⟩
theorem XB.make (h : Kd.R k29 29 W' W.heap.size (fun _ => True) v ys) (hle : w.heap.size ≤ W.heap.size) : XB w W' W.heap.size W'.heap.size v ys :=
  ⟨Kd.R_lower (Kd.R_mono (Kd.R_bound h) (fun _ hk => ⟨hk.2.1, hk.2.2.1⟩)) hle⟩
theorem SB.below (s : SB w W lo hi v xs) (hb : Below W.heap.size W W') : SB w W' lo hi v xs := ⟨Kd.S_below s.h hb⟩
theorem XB.below (s : XB w W lo hi v ys) (hb : Below W.heap.size W W') : XB w W' lo hi v ys := ⟨Kd.R_below s.h hb⟩
theorem SB.kept (s : SB w W lo hi v xs) (hk : Kept W W' P) (hp : ∀ k, lo ≤ k → k < hi → ¬ P k) : SB w W' lo hi v xs := ⟨Kd.S_step s.h (fun k ho hlt => hk.2 k hlt (hp k ho.1 ho.2))⟩
theorem SB.reads (s : SB w W lo hi v xs) : ∃ A c, v = .slice A xs.length c ∧ xs.length ≤ c ∧ Kd.C (Kd.slice 3 (Kd.int .i64)) W A xs.length xs := Kd.S_reads s.h
theorem XB.reads (s : XB w W lo hi v ys) : ∃ A c, v = .slice A ys.length c ∧ ys.length ≤ c ∧ Kd.C k29 W A ys.length ys := Kd.R_reads s.h
end
section
variable (v : Value) (o : List (List Int)) (w0 w : World) (lo hi : Nat)
set_option maxHeartbeats 4000000 in
set_option maxRecDepth 100000 in
theorem markIntSS (hB : Below w0.heap.size w0 w) (hs : SB w0 w lo hi v o) (h4 : ∀ x ∈ o, x.length = 4) (hl : o.length ≤ 1000000) :
    Calls Try.prog 29 #[v, .int .i64 1] w fun e w' => e = .returned (.int .i64 (1 + 4 * (o.length : Int))) ∧ SB w0 w' lo hi v (markN o o.length) ∧ Below w0.heap.size w0 w' ∧ Kept w w' (fun k => lo ≤ k ∧ k < hi) := by
  have HS := Aside0.mk hs
  have HB := Aside0.mk hB
  have H4 := Aside0.mk h4
  have HL := Aside0.mk hl
  have HK := Aside0.mk (Kept.refl w (fun k => lo ≤ k ∧ k < hi))
  obtain ⟨A, c, rfl, _, _⟩ := hs.reads
  clear hs hB h4 hl
  go_enter Try.func29, Try.ntmps29
  go_wp2
  go_loopg [1, 5] o.length (fun kq v1 v5 w' => ∃ (i : Nat) (x a : Int), v1 = .int .i64 a ∧ v5 = .int .i64 x ∧ Aside0 (x = (i : Int)) ∧ Aside0 (a = 1 + 4 * (i : Int)) ∧ Aside0 (i + kq = o.length) ∧ Aside0 (SB w0 w' lo hi (.slice A o.length c) (markN o i)) ∧ Aside0 (Kept w w' (fun k => lo ≤ k ∧ k < hi)) ∧ Aside0 (Below w0.heap.size w0 w'))
  case atStart => exact ⟨0, 0, 1, rfl, rfl, ⟨rfl⟩, ⟨rfl⟩, ⟨by omega⟩, HS, HK, HB⟩
  case round =>
    clear HS HK HB
    obtain ⟨i, x, a, rfl, rfl, HX, HA, HI, HS, HK, HB⟩ := hrel
    cases gk with
    | zero =>
      have xn : decide (x < (o.length : Int)) = false := decide_eq_false (by have := HX.out; have := HI.out; omega)
      have HF := Aside0.mk (show i = o.length by have := HI.out; omega)
      go_wp2
      go_ret
      exact ⟨by rw [HA.out, HF.out]; rfl, by have := HS.out; rw [HF.out] at this; exact this, HB.out, HK.out⟩
    | succ k1 =>
      have hlt : i < o.length := by have := HI.out; omega
      have xp : decide (x < (o.length : Int)) = true := decide_eq_true (by have := HX.out; omega)
      have x0 : 0 ≤ x := by have := HX.out; omega
      have xl : x < (o.length : Int) := by have := HX.out; omega
      have hml := Sem.markN_len o i
      obtain ⟨g, cap, he, _, _, _⟩ := Kd.S_form HS.out.h (by omega)
      rw [hml] at he
      injection he with hA hn_ hc
      clear hn_
      subst hA; subst hc
      obtain ⟨oki, cs, hcl, hM, hcc, hoki, hH⟩ := Kd.S_lend HS.out.h ([] : List Int) x x0 xl
      have e1 : (markN o i).getD x.toNat [] = rd_L2 (markN o i) x := rfl
      have e2 : rd_L2 (markN o i) x = rd_L2 o x := by rw [HX.out, Sem.markN_at o i i hlt, if_neg (by omega)]
      have hlen : (rd_L2 o x).length = 4 := H4.out _ (mem_rd o x x0 xl)
      rw [e1, e2] at hM
      obtain ⟨u, rfl, hR⟩ := hM
      have hcell := hcc 0 u rfl
      rw [Nat.add_zero, show (Kd.slice 3 (Kd.int .i64)).sz = 1 from rfl, Nat.mul_one] at hcell
      have HM := Aside0.mk (laws_markIntS.calls 5 oki u (rd_L2 o x) a (a + 4) (mk4 a) w0 wr HB.out hR (Sem.markIntS4 _ hlen a (by have := HA.out; omega) (by have := HA.out; have := HL.out; omega)))
      have HH := Aside0.mk hH
      have HO := Aside0.mk hoki
      have HU := Aside0.mk hR
      have hx0 := eq_true x0
      have hxl := eq_true xl
      clear hcc hcl hH hoki hR e1 e2 hlen hml x0 xl hlt
      go_wp2_with (first | (go_at_call 32; (with_reducible refine HM.out.mono ?_); rintro e w2 ⟨rfl, hr_, hb_, hk_⟩; have HR2 := Aside0.mk hr_; have HB2 := Aside0.mk hb_; have HK2 := Aside0.mk hk_; clear hr_ hb_ hk_))
      go_roundg k1
      case measure => omega
      case rel =>
        refine ⟨i + 1, _, _, rfl, rfl, ⟨?_⟩, ⟨?_⟩, ⟨by have := HI.out; omega⟩, ⟨⟨?_⟩⟩, ⟨?_⟩, HB2⟩
        · have := HX.out; have := HI.out; have := HL.out
          unfold wrap64; omega
        · have := HA.out; omega
        · have hR3 : Kd.R (Kd.int .i64) 3 w2 w0.heap.size oki u (mk4 a) := Kd.R_reok rfl HR2.out HU.out.1
          have hb3 := Kd.H_back (Kd.H_step HH.out (fun k _ hn hlt => HK2.out.2 k hlt hn)) (x' := mk4 a) (okp := oki) ⟨u, rfl, hR3⟩ (fun _ hk => hk)
          have e : markN o (i + 1) = (markN o i).set x.toNat (mk4 a) := by rw [markN, HA.out, HX.out, Int.toNat_natCast]
          rw [e]
          exact hb3
        · exact HK.out.then_ HK2.out (fun k hk => .inl (HO.out k hk).1)
end
/-- A row of rows that is only read, whose blocks are below hi. -/
structure NB (w W : World) (hi : Nat) (v : Value) (xs : List (List Int)) : Prop where
  h : Kd.N (Kd.slice 3 (Kd.int .i64)) 35 W w.heap.size (fun k => k < hi) v xs
section
variable {w W W' : World} {lo hi : Nat} {u v : Value} {xs o : List (List Int)} {ys L : List S29} {l : List S24} {P : Nat → Prop} {A : Option Addr} {c k : Nat}
theorem NB.below (s : NB w W hi v xs) (hb : Below W.heap.size W W') : NB w W' hi v xs := ⟨Kd.N_below s.h hb⟩
theorem NB.kept (s : NB w W hi v xs) (hk : Kept W W' P) (hp : ∀ k, k < hi → ¬ P k) : NB w W' hi v xs := ⟨Kd.N_kept s.h hk hp⟩
theorem NB.reads (s : NB w W hi v xs) : ∃ A c, v = .slice A xs.length c ∧ xs.length ≤ c ∧ Kd.C (Kd.slice 3 (Kd.int .i64)) W A xs.length xs := Kd.N_reads s.h
theorem below_drawn {W W' : World} (h : Drawn0 W W') : Below W.heap.size W W' := by
  obtain ⟨n, rfl⟩ := h
  exact pw_below_drewN (Below.refl _ _) n
theorem c_sz {r : Int} (hr : Kd.C k24 W A l.length l) (hc : l.length ≤ c) (h : laws_szSayS.f l 1048576 = some r) : Calls Try.prog 8 #[.slice A l.length c, .int .i64 1048576] W fun e w' => e = .returned (.int .i64 r) ∧ Below W.heap.size W w' :=
  (laws_szSayS.calls A c l 1048576 r W hr hc h).mono (fun e w' ⟨he, hd⟩ => ⟨he, below_drawn hd⟩)
theorem c_to (hle : w.heap.size ≤ W.heap.size) (hr : Kd.C k24 W A l.length l) (hc : l.length ≤ c) (h : laws_toSayS.f k l = some L) : Calls Try.prog 10 #[.slice A l.length c] W fun e w' => ∃ u, e = .returned u ∧ XB w w' W.heap.size w'.heap.size u L ∧ Below W.heap.size W w' :=
  (laws_toSayS.calls k A c l L W hr hc h).mono (fun e w' ⟨u, he, h0, hb⟩ => ⟨u, he, XB.make h0 hle, hb⟩)
theorem c_spec (hle : w.heap.size ≤ W.heap.size) (s : XB w W lo hi u L) (h : spec_CornersOf.f k L = some o) : Calls Try.prog 25 #[u] W fun e w' => ∃ v, e = .returned v ∧ NB w w' w'.heap.size v o ∧ Below W.heap.size W w' := by
  obtain ⟨A, c, rfl, hc, hr⟩ := s.reads
  exact (spec_CornersOf.calls k A c L o W hr hc h).mono (fun e w' ⟨v, he, h0, hb⟩ => ⟨v, he, ⟨Kd.N_lower (Kd.N_mono (Kd.N_bound h0) (fun _ hk => hk.2)) hle⟩, hb⟩)
theorem c_impl (hle : w.heap.size ≤ W.heap.size) (s : XB w W lo hi u L) (h : corA L = o) : Calls Try.prog 23 #[u] W fun e w' => ∃ v, e = .returned v ∧ SB w w' W.heap.size w'.heap.size v o ∧ Below W.heap.size W w' := by
  obtain ⟨A, c, rfl, hc, hr⟩ := s.reads
  subst h
  exact (CornersOf A c L W hr).mono (fun e w' ⟨v, he, h0, hb⟩ => ⟨v, he, SB.make h0 hle, hb⟩)
theorem c_eq {hi' : Nat} (s : SB w W lo hi u o) (t : NB w W hi' v o) (h : laws_eqIntSS.f k o o = some true) : Calls Try.prog 27 #[u, v] W fun e w' => e = .returned (.bool true) ∧ Below W.heap.size W w' := by
  obtain ⟨A, c, rfl, hc, hr⟩ := s.reads
  obtain ⟨B, d, rfl, hd, ht⟩ := t.reads
  exact (laws_eqIntSS.calls k A c o B d o true W hr hc ht hd h).mono (fun e w' ⟨he, hb⟩ => ⟨he, below_drawn hb⟩)
theorem c_eqS {lo' hi' : Nat} (s : XB w W lo hi u L) (t : XB w W lo' hi' v L) (h : laws_eqSayS.f k L L = some true) : Calls Try.prog 13 #[u, v] W fun e w' => e = .returned (.bool true) ∧ Below W.heap.size W w' := by
  obtain ⟨A, c, rfl, hc, hr⟩ := s.reads
  obtain ⟨B, d, rfl, hd, ht⟩ := t.reads
  exact (laws_eqSayS.calls k A c L B d L true W hr hc ht hd h).mono (fun e w' ⟨he, hb⟩ => ⟨he, hb⟩)
theorem c_markS {r : Int} (hB : Below w.heap.size w W) (s : XB w W lo hi u L) (h : laws_markSayS.f k L 1 = some (r, ys)) : Calls Try.prog 28 #[u, .int .i64 1] W fun e w' => e = .returned (.int .i64 r) ∧ Kept W w' (fun k => lo ≤ k ∧ k < hi) ∧ Below w.heap.size w w' :=
  (laws_markSayS.calls k (fun k => lo ≤ k ∧ k < hi) u L 1 r ys w W hB s.h h).mono (fun e w' ⟨he, _, hb, hk⟩ => ⟨he, hk, hb⟩)
theorem c_held {m : Int} (s : SB w W lo hi u xs) (h : laws_heldIntSS.f k xs 1 = some m) : Calls Try.prog 30 #[u, .int .i64 1] W fun e w' => e = .returned (.int .i64 m) ∧ Below W.heap.size W w' := by
  obtain ⟨A, c, rfl, hc, hr⟩ := s.reads
  exact (laws_heldIntSS.calls k A c xs 1 m W hr hc h).mono (fun e w' ⟨he, hd⟩ => ⟨he, below_drawn hd⟩)
end
end Go.Proofs.Ytmbninbecclbiaa.ManR
