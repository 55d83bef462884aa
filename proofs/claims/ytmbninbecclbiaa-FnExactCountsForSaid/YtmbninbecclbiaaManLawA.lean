/- Words printed by the print tool, the unused ones left out, merged into one text by mergew.py. -/
import Derived.Test.YtmbninbecclbiaaManSB
import Derived.Test.YtmbninbecclbiaaPAx10
import Derived.Test.YtmbninbecclbiaaPAx29
import Derived.Test.YtmbninbecclbiaaPAx37
import Derived.Test.YtmbninbecclbiaaPAx39
import Derived.Test.YtmbninbecclbiaaPAx13
import Derived.Test.YtmbninbecclbiaaPAx23
import Derived.Test.YtmbninbecclbiaaPAx38
import Derived.Test.YtmbninbecclbiaaPAx1
import Derived.Test.YtmbninbecclbiaaSemCntF
section
/- The law FnExactCountsFor, its call: it returns true; no condition but a length's range. -/
namespace Go.Proofs.Ytmbninbecclbiaa.ManR
open Go.RowKit Go.Proofs.Ytmbninbecclbiaa.PA Go.Proofs.YtmbninbecclbiaaW.PrintWords Go.Proofs.YtmbninbecclbiaaW.PrintLast Go.Proofs.YtmbninbecclbiaaW.PrintMore
set_option linter.unusedVariables false
set_option linter.unusedSimpArgs false

/-- A row of numbers, whose block is from lo on and below hi. -/
structure IB (w W : World) (lo hi : Nat) (v : Value) (xs : List Int) : Prop where
  h : Kd.R (Kd.int .i64) 3 W w.heap.size (fun k => lo ≤ k ∧ k < hi) v xs
section
variable {w W W' : World} {lo hi lo' hi' : Nat} {u v : Value} {S S' : List Int} {L : List S29} {P : Nat → Prop} {k : Nat} {b : Bool}
theorem IB.make (h : Kd.R (Kd.int .i64) 3 W' W.heap.size (fun _ => True) v S) (hle : w.heap.size ≤ W.heap.size) : IB w W' W.heap.size W'.heap.size v S :=
  ⟨Kd.R_lower (Kd.R_mono (Kd.R_bound h) (fun _ hk => ⟨hk.2.1, hk.2.2.1⟩)) hle⟩
theorem IB.below (s : IB w W lo hi v S) (hb : Below W.heap.size W W') : IB w W' lo hi v S := ⟨Kd.R_below s.h hb⟩
theorem IB.kept (s : IB w W lo hi v S) (hk : Kept W W' P) (hp : ∀ k, lo ≤ k → k < hi → ¬ P k) : IB w W' lo hi v S := ⟨Kd.R_step s.h (fun k ho hlt => hk.2 k hlt (hp k ho.1 ho.2))⟩
theorem IB.reads (s : IB w W lo hi v S) : ∃ A c, v = .slice A S.length c ∧ S.length ≤ c ∧ Kd.C (Kd.int .i64) W A S.length S := Kd.R_reads s.h
theorem c_specC (hle : w.heap.size ≤ W.heap.size) (s : XB w W lo hi u L) (h : spec_CountsFor.f k L = some (S, b)) : Calls Try.prog 16 #[u] W fun e w' => ∃ v, e = .returned (.tuple #[v, .bool b]) ∧ IB w w' W.heap.size w'.heap.size v S ∧ Below W.heap.size W w' := by
  obtain ⟨A, c, rfl, hc, hr⟩ := s.reads
  exact (spec_CountsFor.calls k A c L S b W hr hc h).mono (fun e w' ⟨v, he, h0, hb⟩ => ⟨v, he, IB.make h0 hle, hb⟩)
theorem c_implC (hle : w.heap.size ≤ W.heap.size) (s : XB w W lo hi u L) (h : impl_CountsFor.f L = some (S, b)) : Calls Try.prog 15 #[u] W fun e w' => ∃ v, e = .returned (.tuple #[v, .bool b]) ∧ IB w w' W.heap.size w'.heap.size v S ∧ Below W.heap.size W w' := by
  obtain ⟨A, c, rfl, hc, hr⟩ := s.reads
  exact (impl_CountsFor.calls A c L S b W hr hc h).mono (fun e w' ⟨v, he, h0, hb⟩ => ⟨v, he, IB.make h0 hle, hb⟩)
theorem c_eqI (s : IB w W lo hi u S) (t : IB w W lo' hi' v S) (h : laws_eqIntS.f k S S = some true) : Calls Try.prog 31 #[u, v] W fun e w' => e = .returned (.bool true) ∧ Below W.heap.size W w' := by
  obtain ⟨A, c, rfl, hc, hr⟩ := s.reads
  obtain ⟨B, d, rfl, hd, ht⟩ := t.reads
  exact (laws_eqIntS.calls k A c S B d S true W hr hc ht hd h).mono (fun e w' ⟨he, hb⟩ => ⟨he, below_drawn hb⟩)
theorem c_markI {m : Int} (hB : Below w.heap.size w W) (s : IB w W lo hi u S) (h : laws_markIntS.f k S 1 = some (m, S')) : Calls Try.prog 32 #[u, .int .i64 1] W fun e w' => e = .returned (.int .i64 m) ∧ IB w w' lo hi u S' ∧ Kept W w' (fun k => lo ≤ k ∧ k < hi) ∧ Below w.heap.size w w' :=
  (laws_markIntS.calls k (fun k => lo ≤ k ∧ k < hi) u S 1 m S' w W hB s.h h).mono (fun e w' ⟨he, hr, hb, hk⟩ => ⟨he, ⟨Kd.R_reok rfl hr s.h.1⟩, hk, hb⟩)
theorem c_heldI {m : Int} (s : IB w W lo hi u S) (h : laws_heldIntS.f k S 1 = some m) : Calls Try.prog 33 #[u, .int .i64 1] W fun e w' => e = .returned (.int .i64 m) ∧ Below W.heap.size W w' := by
  obtain ⟨A, c, rfl, hc, hr⟩ := s.reads
  exact (laws_heldIntS.calls k A c S 1 m W hr hc h).mono (fun e w' ⟨he, hd⟩ => ⟨he, below_drawn hd⟩)
end
/-- What the law's calls answer. -/
structure CntFacts (l : List S24) (L y : List S29) (S S' : List Int) (b : Bool) (k1 k2 k3 k4 k5 k6 k7 : Nat) (r m : Int) : Prop where
  t : laws_toSayS.f k1 l = some L
  s : spec_CountsFor.f k2 L = some (S, b)
  i : impl_CountsFor.f L = some (S, b)
  e : laws_eqIntS.f k3 S S = some true
  q : laws_eqSayS.f k4 L L = some true
  ms : laws_markSayS.f k5 L 1 = some (r, y)
  r0 : 0 ≤ r
  mi : laws_markIntS.f k6 S 1 = some (m, S')
  hd : laws_heldIntS.f k7 S' 1 = some m
  m0 : 0 ≤ m
set_option maxHeartbeats 8000000 in
set_option maxRecDepth 100000 in
theorem lawCnt (A : Option Addr) (c : Nat) (l : List S24) (w : World) (hr : Kd.C k24 w A l.length l) (hc : l.length ≤ c) (hL : l.length ≤ 9223372036854775807) (F : l.length ≤ 1048576 → ∃ L y S S' b k1 k2 k3 k4 k5 k6 k7 r m, CntFacts l L y S S' b k1 k2 k3 k4 k5 k6 k7 r m) :
    Calls Try.prog 7 #[.slice A l.length c] w fun e w' => e = .returned (.bool true) ∧ Below w.heap.size w w' := by
  have HR := Aside0.mk hr
  have HC := Aside0.mk hc
  have HB0 := Aside0.mk (Below.refl w.heap.size w)
  have hz := Sem.szSayS_eq l hL
  clear hr hc hL
  by_cases h1 : 1048576 < (l.length : Int)
  · rw [if_pos h1] at hz
    have HZ := Aside0.mk hz
    clear hz F h1
    go_enter Try.func7, Try.ntmps7
    go_wp2_with (first | (go_at_call 8; (with_reducible refine (c_sz HR.out HC.out HZ.out).mono ?_); rintro e w1 ⟨rfl, hb_⟩; have HB1 := Aside0.mk hb_; clear hb_))
    go_ret
    exact ⟨rfl, HB1.out⟩
  · rw [if_neg h1] at hz
    obtain ⟨z, hzd⟩ : ∃ z, z = 1048576 - (l.length : Int) := ⟨_, rfl⟩
    rw [← hzd] at hz
    have z0 : decide (z < 0) = false := decide_eq_false (by omega)
    obtain ⟨L, y, S, S', b, k1, k2, k3, k4, k5, k6, k7, r, m, F⟩ := F (by omega)
    have HZ := Aside0.mk hz
    have HT := Aside0.mk F.t
    have HS := Aside0.mk F.s
    have HI := Aside0.mk F.i
    have HE := Aside0.mk F.e
    have HQ := Aside0.mk F.q
    have HM := Aside0.mk F.ms
    have r0 : decide (r < 0) = false := decide_eq_false (by have := F.r0; omega)
    have HMI := Aside0.mk F.mi
    have HD := Aside0.mk F.hd
    have m0 : decide (m < 0) = false := decide_eq_false (by have := F.m0; omega)
    clear F hz hzd h1
    cases b
    · go_enter Try.func7, Try.ntmps7
      go_wp2_with (first | (go_at_call 33; (with_reducible refine (c_heldI GM15.out HD.out).mono ?_); rintro e w16 ⟨rfl, hb_⟩; have HB16 := Aside0.mk (below_step HB15.out hb_); clear hb_) | (go_at_call 31; (with_reducible refine (c_eqI GH14.out NW14.out HE.out).mono ?_); rintro e w15 ⟨rfl, hb_⟩; have GM15 := Aside0.mk (GM14.out.below hb_); have HB15 := Aside0.mk (below_step HB14.out hb_); clear hb_) | (go_at_call 15; (with_reducible refine (c_implC (w := w) (below_size HB13.out) XD13.out HI.out).mono ?_); rintro e w14 ⟨uH, rfl, x_, hb_⟩; have GH14 := Aside0.mk x_; have NW14 := Aside0.mk (NW13.out.below hb_); have GM14 := Aside0.mk (GM13.out.below hb_); have HB14 := Aside0.mk (below_step HB13.out hb_); clear x_ hb_) | (go_at_call 10; (with_reducible refine (c_to (w := w) (below_size HB12.out) (Kd.C_below HR.out HB12.out) HC.out HT.out).mono ?_); rintro e w13 ⟨uXD, rfl, x_, hb_⟩; have XD13 := Aside0.mk x_; have NW13 := Aside0.mk (NW12.out.below hb_); have GM13 := Aside0.mk (GM12.out.below hb_); have HB13 := Aside0.mk (below_step HB12.out hb_); clear x_ hb_) | (go_at_call 33; (with_reducible refine (c_heldI GM11.out HD.out).mono ?_); rintro e w12 ⟨rfl, hb_⟩; have NW12 := Aside0.mk (NW11.out.below hb_); have GM12 := Aside0.mk (GM11.out.below hb_); have HB12 := Aside0.mk (below_step HB11.out hb_); clear hb_) | (go_at_call 32; (with_reducible refine (c_markI HB10.out GS10.out HMI.out).mono ?_); rintro e w11 ⟨rfl, x_, hk_, hb_⟩; have GM11 := Aside0.mk x_; have NW11 := Aside0.mk (NW10.out.kept hk_ (fun k h3 h1 h2 => by have := HN4.out; omega)); have HB11 := Aside0.mk hb_; clear x_ hk_ hb_) | (go_at_call 31; (with_reducible refine (c_eqI GS9.out NW9.out HE.out).mono ?_); rintro e w10 ⟨rfl, hb_⟩; have NW10 := Aside0.mk (NW9.out.below hb_); have GS10 := Aside0.mk (GS9.out.below hb_); have HB10 := Aside0.mk (below_step HB9.out hb_); clear hb_) | (go_at_call 28; (with_reducible refine (c_markS HB8.out XO8.out HM.out).mono ?_); rintro e w9 ⟨rfl, hk_, hb_⟩; have NW9 := Aside0.mk (NW8.out.kept hk_ (fun k h3 h1 h2 => by omega)); have GS9 := Aside0.mk (GS8.out.kept hk_ (fun k h1 h3 h2 => by omega)); have HB9 := Aside0.mk hb_; clear hk_ hb_) | (go_at_call 13; (with_reducible refine (c_eqS XO7.out XC7.out HQ.out).mono ?_); rintro e w8 ⟨rfl, hb_⟩; have NW8 := Aside0.mk (NW7.out.below hb_); have XO8 := Aside0.mk (XO7.out.below hb_); have GS8 := Aside0.mk (GS7.out.below hb_); have HB8 := Aside0.mk (below_step HB7.out hb_); clear hb_) | (go_at_call 10; (with_reducible refine (c_to (w := w) (below_size HB6.out) (Kd.C_below HR.out HB6.out) HC.out HT.out).mono ?_); rintro e w7 ⟨uXC, rfl, x_, hb_⟩; have XC7 := Aside0.mk x_; have NW7 := Aside0.mk (NW6.out.below hb_); have XO7 := Aside0.mk (XO6.out.below hb_); have GS7 := Aside0.mk (GS6.out.below hb_); have HB7 := Aside0.mk (below_step HB6.out hb_); clear x_ hb_) | (go_at_call 31; (with_reducible refine (c_eqI GS5.out NW5.out HE.out).mono ?_); rintro e w6 ⟨rfl, hb_⟩; have NW6 := Aside0.mk (NW5.out.below hb_); have XO6 := Aside0.mk (XO5.out.below hb_); have GS6 := Aside0.mk (GS5.out.below hb_); have HB6 := Aside0.mk (below_step HB5.out hb_); clear hb_) | (go_at_call 15; (with_reducible refine (c_implC (w := w) (below_size HB4.out) XO4.out HI.out).mono ?_); rintro e w5 ⟨uG, rfl, x_, hb_⟩; have GS5 := Aside0.mk x_; have NW5 := Aside0.mk (NW4.out.below hb_); have XO5 := Aside0.mk (XO4.out.below hb_); have HB5 := Aside0.mk (below_step HB4.out hb_); clear x_ hb_) | (go_at_call 10; (with_reducible refine (c_to (w := w) (below_size HB3.out) (Kd.C_below HR.out HB3.out) HC.out HT.out).mono ?_); rintro e w4 ⟨uXO, rfl, x_, hb_⟩; have XO4 := Aside0.mk x_; have NW4 := Aside0.mk (NW3.out.below hb_); have HB4 := Aside0.mk (below_step HB3.out hb_); have HN4 := Aside0.mk (show w3.heap.size ≤ w4.heap.size from hb_.size); clear x_ hb_) | (go_at_call 16; (with_reducible refine (c_specC (w := w) (below_size HB2.out) XA2.out HS.out).mono ?_); rintro e w3 ⟨uN, rfl, x_, hb_⟩; have NW3 := Aside0.mk x_; have HB3 := Aside0.mk (below_step HB2.out hb_); clear x_ hb_) | (go_at_call 10; (with_reducible refine (c_to (w := w) (below_size HB1.out) (Kd.C_below HR.out HB1.out) HC.out HT.out).mono ?_); rintro e w2 ⟨uXA, rfl, x_, hb_⟩; have XA2 := Aside0.mk x_; have HB2 := Aside0.mk (below_step HB1.out hb_); clear x_ hb_) | (go_at_call 8; (with_reducible refine (c_sz HR.out HC.out HZ.out).mono ?_); rintro e w1 ⟨rfl, hb_⟩; have HB1 := Aside0.mk hb_; clear hb_))
      go_ret
      exact ⟨rfl, HB16.out⟩
    · go_enter Try.func7, Try.ntmps7
      go_wp2_with (first | (go_at_call 33; (with_reducible refine (c_heldI GM15.out HD.out).mono ?_); rintro e w16 ⟨rfl, hb_⟩; have HB16 := Aside0.mk (below_step HB15.out hb_); clear hb_) | (go_at_call 31; (with_reducible refine (c_eqI GH14.out NW14.out HE.out).mono ?_); rintro e w15 ⟨rfl, hb_⟩; have GM15 := Aside0.mk (GM14.out.below hb_); have HB15 := Aside0.mk (below_step HB14.out hb_); clear hb_) | (go_at_call 15; (with_reducible refine (c_implC (w := w) (below_size HB13.out) XD13.out HI.out).mono ?_); rintro e w14 ⟨uH, rfl, x_, hb_⟩; have GH14 := Aside0.mk x_; have NW14 := Aside0.mk (NW13.out.below hb_); have GM14 := Aside0.mk (GM13.out.below hb_); have HB14 := Aside0.mk (below_step HB13.out hb_); clear x_ hb_) | (go_at_call 10; (with_reducible refine (c_to (w := w) (below_size HB12.out) (Kd.C_below HR.out HB12.out) HC.out HT.out).mono ?_); rintro e w13 ⟨uXD, rfl, x_, hb_⟩; have XD13 := Aside0.mk x_; have NW13 := Aside0.mk (NW12.out.below hb_); have GM13 := Aside0.mk (GM12.out.below hb_); have HB13 := Aside0.mk (below_step HB12.out hb_); clear x_ hb_) | (go_at_call 33; (with_reducible refine (c_heldI GM11.out HD.out).mono ?_); rintro e w12 ⟨rfl, hb_⟩; have NW12 := Aside0.mk (NW11.out.below hb_); have GM12 := Aside0.mk (GM11.out.below hb_); have HB12 := Aside0.mk (below_step HB11.out hb_); clear hb_) | (go_at_call 32; (with_reducible refine (c_markI HB10.out GS10.out HMI.out).mono ?_); rintro e w11 ⟨rfl, x_, hk_, hb_⟩; have GM11 := Aside0.mk x_; have NW11 := Aside0.mk (NW10.out.kept hk_ (fun k h3 h1 h2 => by have := HN4.out; omega)); have HB11 := Aside0.mk hb_; clear x_ hk_ hb_) | (go_at_call 31; (with_reducible refine (c_eqI GS9.out NW9.out HE.out).mono ?_); rintro e w10 ⟨rfl, hb_⟩; have NW10 := Aside0.mk (NW9.out.below hb_); have GS10 := Aside0.mk (GS9.out.below hb_); have HB10 := Aside0.mk (below_step HB9.out hb_); clear hb_) | (go_at_call 28; (with_reducible refine (c_markS HB8.out XO8.out HM.out).mono ?_); rintro e w9 ⟨rfl, hk_, hb_⟩; have NW9 := Aside0.mk (NW8.out.kept hk_ (fun k h3 h1 h2 => by omega)); have GS9 := Aside0.mk (GS8.out.kept hk_ (fun k h1 h3 h2 => by omega)); have HB9 := Aside0.mk hb_; clear hk_ hb_) | (go_at_call 13; (with_reducible refine (c_eqS XO7.out XC7.out HQ.out).mono ?_); rintro e w8 ⟨rfl, hb_⟩; have NW8 := Aside0.mk (NW7.out.below hb_); have XO8 := Aside0.mk (XO7.out.below hb_); have GS8 := Aside0.mk (GS7.out.below hb_); have HB8 := Aside0.mk (below_step HB7.out hb_); clear hb_) | (go_at_call 10; (with_reducible refine (c_to (w := w) (below_size HB6.out) (Kd.C_below HR.out HB6.out) HC.out HT.out).mono ?_); rintro e w7 ⟨uXC, rfl, x_, hb_⟩; have XC7 := Aside0.mk x_; have NW7 := Aside0.mk (NW6.out.below hb_); have XO7 := Aside0.mk (XO6.out.below hb_); have GS7 := Aside0.mk (GS6.out.below hb_); have HB7 := Aside0.mk (below_step HB6.out hb_); clear x_ hb_) | (go_at_call 31; (with_reducible refine (c_eqI GS5.out NW5.out HE.out).mono ?_); rintro e w6 ⟨rfl, hb_⟩; have NW6 := Aside0.mk (NW5.out.below hb_); have XO6 := Aside0.mk (XO5.out.below hb_); have GS6 := Aside0.mk (GS5.out.below hb_); have HB6 := Aside0.mk (below_step HB5.out hb_); clear hb_) | (go_at_call 15; (with_reducible refine (c_implC (w := w) (below_size HB4.out) XO4.out HI.out).mono ?_); rintro e w5 ⟨uG, rfl, x_, hb_⟩; have GS5 := Aside0.mk x_; have NW5 := Aside0.mk (NW4.out.below hb_); have XO5 := Aside0.mk (XO4.out.below hb_); have HB5 := Aside0.mk (below_step HB4.out hb_); clear x_ hb_) | (go_at_call 10; (with_reducible refine (c_to (w := w) (below_size HB3.out) (Kd.C_below HR.out HB3.out) HC.out HT.out).mono ?_); rintro e w4 ⟨uXO, rfl, x_, hb_⟩; have XO4 := Aside0.mk x_; have NW4 := Aside0.mk (NW3.out.below hb_); have HB4 := Aside0.mk (below_step HB3.out hb_); have HN4 := Aside0.mk (show w3.heap.size ≤ w4.heap.size from hb_.size); clear x_ hb_) | (go_at_call 16; (with_reducible refine (c_specC (w := w) (below_size HB2.out) XA2.out HS.out).mono ?_); rintro e w3 ⟨uN, rfl, x_, hb_⟩; have NW3 := Aside0.mk x_; have HB3 := Aside0.mk (below_step HB2.out hb_); clear x_ hb_) | (go_at_call 10; (with_reducible refine (c_to (w := w) (below_size HB1.out) (Kd.C_below HR.out HB1.out) HC.out HT.out).mono ?_); rintro e w2 ⟨uXA, rfl, x_, hb_⟩; have XA2 := Aside0.mk x_; have HB2 := Aside0.mk (below_step HB1.out hb_); clear x_ hb_) | (go_at_call 8; (with_reducible refine (c_sz HR.out HC.out HZ.out).mono ?_); rintro e w1 ⟨rfl, hb_⟩; have HB1 := Aside0.mk hb_; clear hb_))
      go_ret
      exact ⟨rfl, HB16.out⟩
end Go.Proofs.Ytmbninbecclbiaa.ManR

end
section
/- The law FnExactCountsFor: what its calls answer; no condition but a length. -/
namespace Go.Proofs.Ytmbninbecclbiaa.ManR
open Go.RowKit Go.Proofs.Ytmbninbecclbiaa.PA Go.Proofs.YtmbninbecclbiaaW.PrintWords Go.Proofs.YtmbninbecclbiaaW.PrintLast Go.Proofs.YtmbninbecclbiaaW.PrintMore
set_option linter.unusedVariables false
set_option linter.unusedSimpArgs false
open Go.Proofs.Ytmbninbecclbiaa.Sem (mk4 conv)

theorem cntR_len (L : List S29) : (Cor.cntR L).1 = [] ∨ (Cor.cntR L).1.length = 4 := by
  unfold Cor.cntR
  by_cases hw : Man.weighedB L = true
  · rw [if_pos hw]
    unfold cntA
    have hc := Cor.cor_len (weigh_ok hw).1
    split
    · exact Or.inl rfl
    · exact Or.inr (sumN_len (cornersI L) hc.2 _ (Nat.le_refl _))
  · rw [if_neg hw]
    exact Or.inl rfl
theorem impl_cnt (L : List S29) : impl_CountsFor.f L = some (Cor.cntR L) := by
  unfold impl_CountsFor.f Cor.cntR
  show (some (Man.weighedB L)).bind _ = _
  simp only [Option.bind_some]
  cases hw : Man.weighedB L with
  | true =>
    simp only [if_true]
    show (cntF L).bind _ = _
    unfold cntF
    rw [hw]
    rfl
  | false =>
    simp
theorem row_facts (S : List Int) (h : S = [] ∨ S.length = 4) : ∃ S' k3 k6 k7 m, laws_eqIntS.f k3 S S = some true ∧ laws_markIntS.f k6 S 1 = some (m, S') ∧ laws_heldIntS.f k7 S' 1 = some m ∧ 0 ≤ m := by
  rcases h with rfl | h
  · exact ⟨[], 5, 5, 5, 1, rfl, rfl, rfl, by omega⟩
  · obtain ⟨k3, h3⟩ := Sem.ev_some (Sem.eqIntS4 h)
    obtain ⟨k7, h7⟩ := Sem.ev_some (Sem.heldIntS4 1 (by omega) (by omega))
    exact ⟨mk4 1, k3, 5, k7, 1 + 4, h3, Sem.markIntS4 S h 1 (by omega) (by omega), h7, by omega⟩
theorem cnt_facts (l : List S24) (hl : l.length ≤ 1048576) : ∃ L y S S' b k1 k2 k3 k4 k5 k6 k7 r m, CntFacts l L y S S' b k1 k2 k3 k4 k5 k6 k7 r m := by
  have hm : (l.map conv).length ≤ 1048576 := by rw [List.length_map]; exact hl
  obtain ⟨k1, h1⟩ := Sem.ev_some (Sem.toSayS_eq l hl)
  obtain ⟨k2, h2⟩ := Cor.countsFor_ev (l.map conv) (by omega)
  obtain ⟨k4, h4⟩ := Sem.ev_some (Sem.eqSayS_self (l.map conv) hm)
  obtain ⟨r, y, hr, hmk⟩ := Sem.markSayS_eq (l.map conv) hm
  obtain ⟨k5, h5⟩ := Sem.ev_some hmk
  obtain ⟨S', k3, k6, k7, m, h3, h6, h7, h0⟩ := row_facts _ (cntR_len (l.map conv))
  exact ⟨l.map conv, y, (Cor.cntR (l.map conv)).1, S', (Cor.cntR (l.map conv)).2, k1, k2, k3, k4, k5, k6, k7, r, m, h1, h2 k2 (Nat.le_refl _), impl_cnt _, h3, h4, h5, hr, h6, h7, h0⟩
end Go.Proofs.Ytmbninbecclbiaa.ManR

end
