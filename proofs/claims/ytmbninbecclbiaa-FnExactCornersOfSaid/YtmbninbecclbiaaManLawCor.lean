/- The law FnExactCornersOf, its call: it returns true; no condition but a length's range. -/
import Derived.Test.YtmbninbecclbiaaManSB
namespace Go.Proofs.Ytmbninbecclbiaa.ManR
open Go.RowKit Go.Proofs.Ytmbninbecclbiaa.PA Go.Proofs.YtmbninbecclbiaaW.PrintWords Go.Proofs.YtmbninbecclbiaaW.PrintLast Go.Proofs.YtmbninbecclbiaaW.PrintMore
set_option linter.unusedVariables false
set_option linter.unusedSimpArgs false
open Go.Proofs.Ytmbninbecclbiaa.Sem (markN mk4 conv)

/-- What the law's calls answer. -/
structure CorFacts (l : List S24) (L y : List S29) (o : List (List Int)) (k1 k2 k3 k4 k5 k6 : Nat) (r : Int) : Prop where
  t : laws_toSayS.f k1 l = some L
  s : spec_CornersOf.f k2 L = some o
  i : corA L = o
  e : laws_eqIntSS.f k3 o o = some true
  q : laws_eqSayS.f k4 L L = some true
  m : laws_markSayS.f k5 L 1 = some (r, y)
  r0 : 0 ≤ r
  hd : laws_heldIntSS.f k6 (markN o o.length) 1 = some (1 + 4 * (o.length : Int))
  h4 : ∀ x ∈ o, x.length = 4
  hl : o.length ≤ 1000000
set_option maxHeartbeats 4000000 in
set_option maxRecDepth 100000 in
theorem lawCor (A : Option Addr) (c : Nat) (l : List S24) (w : World) (hr : Kd.C k24 w A l.length l) (hc : l.length ≤ c) (hL : l.length ≤ 9223372036854775807) (F : l.length ≤ 1048576 → ∃ L y o k1 k2 k3 k4 k5 k6 r, CorFacts l L y o k1 k2 k3 k4 k5 k6 r) :
    Calls Try.prog 6 #[.slice A l.length c] w fun e w' => e = .returned (.bool true) ∧ Below w.heap.size w w' := by
  have HR := Aside0.mk hr
  have HC := Aside0.mk hc
  have HB0 := Aside0.mk (Below.refl w.heap.size w)
  have hz := Sem.szSayS_eq l hL
  clear hr hc hL
  by_cases h1 : 1048576 < (l.length : Int)
  · rw [if_pos h1] at hz
    have HZ := Aside0.mk hz
    clear hz F h1
    go_enter Try.func6, Try.ntmps6
    go_wp2_with (first | (go_at_call 8; (with_reducible refine (c_sz HR.out HC.out HZ.out).mono ?_); rintro e w1 ⟨rfl, hb_⟩; have HB1 := Aside0.mk hb_; clear hb_))
    go_ret
    exact ⟨rfl, HB1.out⟩
  · rw [if_neg h1] at hz
    obtain ⟨z, hzd⟩ : ∃ z, z = 1048576 - (l.length : Int) := ⟨_, rfl⟩
    rw [← hzd] at hz
    have z0 : decide (z < 0) = false := decide_eq_false (by omega)
    obtain ⟨L, y, o, k1, k2, k3, k4, k5, k6, r, F⟩ := F (by omega)
    have HZ := Aside0.mk hz
    have HT := Aside0.mk F.t
    have HS := Aside0.mk F.s
    have HI := Aside0.mk F.i
    have HE := Aside0.mk F.e
    have HQ := Aside0.mk F.q
    have HM := Aside0.mk F.m
    have r0 : decide (r < 0) = false := decide_eq_false (by have := F.r0; omega)
    have hd := F.hd
    have H4 := Aside0.mk F.h4
    have HL := Aside0.mk F.hl
    clear F hz hzd h1
    obtain ⟨m, hm⟩ : ∃ m, m = 1 + 4 * (o.length : Int) := ⟨_, rfl⟩
    rw [← hm] at hd
    have m0 : decide (m < 0) = false := decide_eq_false (by omega)
    have HD := Aside0.mk hd
    have HMM := Aside0.mk hm
    clear hd hm
    go_enter Try.func6, Try.ntmps6
    go_wp2_with (first | (go_at_call 30; (with_reducible refine (c_held GM15.out HD.out).mono ?_); rintro e w16 ⟨rfl, hb_⟩; have HB16 := Aside0.mk (below_step HB15.out hb_); clear hb_) | (go_at_call 27; (with_reducible refine (c_eq GH14.out NW14.out HE.out).mono ?_); rintro e w15 ⟨rfl, hb_⟩; have GM15 := Aside0.mk (GM14.out.below hb_); have HB15 := Aside0.mk (below_step HB14.out hb_); clear hb_) | (go_at_call 23; (with_reducible refine (c_impl (w := w) (below_size HB13.out) XD13.out HI.out).mono ?_); rintro e w14 ⟨uH, rfl, x_, hb_⟩; have GH14 := Aside0.mk x_; have NW14 := Aside0.mk (NW13.out.below hb_); have GM14 := Aside0.mk (GM13.out.below hb_); have HB14 := Aside0.mk (below_step HB13.out hb_); clear x_ hb_) | (go_at_call 10; (with_reducible refine (c_to (w := w) (below_size HB12.out) (Kd.C_below HR.out HB12.out) HC.out HT.out).mono ?_); rintro e w13 ⟨uXD, rfl, x_, hb_⟩; have XD13 := Aside0.mk x_; have NW13 := Aside0.mk (NW12.out.below hb_); have GM13 := Aside0.mk (GM12.out.below hb_); have HB13 := Aside0.mk (below_step HB12.out hb_); clear x_ hb_) | (go_at_call 30; (with_reducible refine (c_held GM11.out HD.out).mono ?_); rintro e w12 ⟨rfl, hb_⟩; have NW12 := Aside0.mk (NW11.out.below hb_); have GM12 := Aside0.mk (GM11.out.below hb_); have HB12 := Aside0.mk (below_step HB11.out hb_); clear hb_) | (go_at_call 29; (with_reducible refine (markIntSS uG o w w10 _ _ HB10.out GS10.out H4.out HL.out).mono ?_); rintro e w11 ⟨he_, x_, hb_, hk_⟩; rw [← HMM.out] at he_; subst he_; have GM11 := Aside0.mk x_; have NW11 := Aside0.mk (NW10.out.kept hk_ (fun k h1 h2 => by have := HN4.out; omega)); have HB11 := Aside0.mk hb_; clear x_ hk_ hb_) | (go_at_call 27; (with_reducible refine (c_eq GS9.out NW9.out HE.out).mono ?_); rintro e w10 ⟨rfl, hb_⟩; have NW10 := Aside0.mk (NW9.out.below hb_); have GS10 := Aside0.mk (GS9.out.below hb_); have HB10 := Aside0.mk (below_step HB9.out hb_); clear hb_) | (go_at_call 28; (with_reducible refine (c_markS HB8.out XO8.out HM.out).mono ?_); rintro e w9 ⟨rfl, hk_, hb_⟩; have NW9 := Aside0.mk (NW8.out.kept hk_ (fun k h1 h2 => by omega)); have GS9 := Aside0.mk (GS8.out.kept hk_ (fun k h1 h3 h2 => by omega)); have HB9 := Aside0.mk hb_; clear hk_ hb_) | (go_at_call 13; (with_reducible refine (c_eqS XO7.out XC7.out HQ.out).mono ?_); rintro e w8 ⟨rfl, hb_⟩; have NW8 := Aside0.mk (NW7.out.below hb_); have XO8 := Aside0.mk (XO7.out.below hb_); have GS8 := Aside0.mk (GS7.out.below hb_); have HB8 := Aside0.mk (below_step HB7.out hb_); clear hb_) | (go_at_call 10; (with_reducible refine (c_to (w := w) (below_size HB6.out) (Kd.C_below HR.out HB6.out) HC.out HT.out).mono ?_); rintro e w7 ⟨uXC, rfl, x_, hb_⟩; have XC7 := Aside0.mk x_; have NW7 := Aside0.mk (NW6.out.below hb_); have XO7 := Aside0.mk (XO6.out.below hb_); have GS7 := Aside0.mk (GS6.out.below hb_); have HB7 := Aside0.mk (below_step HB6.out hb_); clear x_ hb_) | (go_at_call 27; (with_reducible refine (c_eq GS5.out NW5.out HE.out).mono ?_); rintro e w6 ⟨rfl, hb_⟩; have NW6 := Aside0.mk (NW5.out.below hb_); have XO6 := Aside0.mk (XO5.out.below hb_); have GS6 := Aside0.mk (GS5.out.below hb_); have HB6 := Aside0.mk (below_step HB5.out hb_); clear hb_) | (go_at_call 23; (with_reducible refine (c_impl (w := w) (below_size HB4.out) XO4.out HI.out).mono ?_); rintro e w5 ⟨uG, rfl, x_, hb_⟩; have GS5 := Aside0.mk x_; have NW5 := Aside0.mk (NW4.out.below hb_); have XO5 := Aside0.mk (XO4.out.below hb_); have HB5 := Aside0.mk (below_step HB4.out hb_); clear x_ hb_) | (go_at_call 10; (with_reducible refine (c_to (w := w) (below_size HB3.out) (Kd.C_below HR.out HB3.out) HC.out HT.out).mono ?_); rintro e w4 ⟨uXO, rfl, x_, hb_⟩; have XO4 := Aside0.mk x_; have NW4 := Aside0.mk (NW3.out.below hb_); have HB4 := Aside0.mk (below_step HB3.out hb_); have HN4 := Aside0.mk (show w3.heap.size ≤ w4.heap.size from hb_.size); clear x_ hb_) | (go_at_call 25; (with_reducible refine (c_spec (w := w) (below_size HB2.out) XA2.out HS.out).mono ?_); rintro e w3 ⟨uN, rfl, x_, hb_⟩; have NW3 := Aside0.mk x_; have HB3 := Aside0.mk (below_step HB2.out hb_); clear x_ hb_) | (go_at_call 10; (with_reducible refine (c_to (w := w) (below_size HB1.out) (Kd.C_below HR.out HB1.out) HC.out HT.out).mono ?_); rintro e w2 ⟨uXA, rfl, x_, hb_⟩; have XA2 := Aside0.mk x_; have HB2 := Aside0.mk (below_step HB1.out hb_); clear x_ hb_) | (go_at_call 8; (with_reducible refine (c_sz HR.out HC.out HZ.out).mono ?_); rintro e w1 ⟨rfl, hb_⟩; have HB1 := Aside0.mk hb_; clear hb_))
    go_ret
    exact ⟨rfl, HB16.out⟩
end Go.Proofs.Ytmbninbecclbiaa.ManR
