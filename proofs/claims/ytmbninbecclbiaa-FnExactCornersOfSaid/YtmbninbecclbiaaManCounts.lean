/- impl.areCounts and impl.areWeighed: their closures, and the calls; no condition. -/
import Derived.Test.YtmbninbecclbiaaManInts
import Derived.Test.YtmbninbecclbiaaManFunc
import Derived.Test.YtmbninbecclbiaaPAx15
namespace Go.Proofs.Ytmbninbecclbiaa.Man
open Go.RowKit Go.Proofs.Ytmbninbecclbiaa.PA Go.Proofs.YtmbninbecclbiaaW.PrintWords Go.Proofs.YtmbninbecclbiaaW.PrintLast Go.Proofs.YtmbninbecclbiaaW.PrintMore
set_option linter.unusedVariables false
set_option linter.unusedSimpArgs false

/-- A number of things that may be. -/
def cntB (n : Int) : Bool := decide (0 ≤ n ∧ n ≤ 99999)
def countsB (l : List Int) : Bool := decide (l.length = 4) && l.all cntB

theorem areCounts1 (w : World) (l : List Int) : ManI.PredInt 63 #[] (fun n => !cntB n) w l := by
  intro W n _ _
  have HB := Aside0.mk (Below.refl W.heap.size W)
  by_cases h1 : n < 0
  · have HE : Aside0 ((!cntB n) = true) := ⟨by unfold cntB; simp; omega⟩
    go_enter Try.func63, Try.ntmps63
    go_wp2
    go_ret
    exact ⟨by show _ = Ending.returned (.bool (!cntB n)); rw [HE.out]; rfl, HB.out⟩
  · by_cases h2 : n > 99999
    · have HE : Aside0 ((!cntB n) = true) := ⟨by unfold cntB; simp; omega⟩
      go_enter Try.func63, Try.ntmps63
      go_wp2
      go_ret
      exact ⟨by show _ = Ending.returned (.bool (!cntB n)); rw [HE.out]; first | rfl | (simp; omega), HB.out⟩
    · have HE : Aside0 ((!cntB n) = false) := ⟨by unfold cntB; simp; omega⟩
      go_enter Try.func63, Try.ntmps63
      go_wp2
      go_ret
      exact ⟨by show _ = Ending.returned (.bool (!cntB n)); rw [HE.out]; first | rfl | (simp; omega), HB.out⟩

theorem areCounts (A : Option Addr) (c : Nat) (l : List Int) (w : World) (hr : Kd.C (Kd.int .i64) w A l.length l) :
    Calls Try.prog 45 #[.slice A l.length c] w fun e w' => e = .returned (.bool (countsB l)) ∧ Below w.heap.size w w' := by
  have hlen : l.length ≤ 9223372036854775807 := hr.2.1
  have HB := Aside0.mk (Below.refl w.heap.size w)
  have eg := enters_of Try.func63 (by kernel_rfl) rfl
  have hall : l.all cntB = !l.any (fun x => !cntB x) := by rw [List.not_any_eq_all_not]; simp
  by_cases h : (l.length : Int) = 4
  · have HE : Aside0 (countsB l = !l.any (fun x => !cntB x)) := ⟨by unfold countsB; rw [hall, decide_eq_true (show l.length = 4 by omega)]; rfl⟩
    have hb1 : ((l.length : Int) == 4) = true := beq_iff_eq.mpr h
    have HF := Aside0.mk (ManI.ContainsFunc (fun x => !cntB x) 63 #[] eg A c l w (areCounts1 w l) hr)
    clear hall eg hr h
    go_enter Try.func45, Try.ntmps45
    go_wp2_with (go_at_call 62; refine HF.out.mono ?_; rintro e w' ⟨rfl, hb'⟩)
    go_ret
    exact ⟨by rw [HE.out]; rfl, hb'⟩
  · have HE : Aside0 (countsB l = false) := ⟨by unfold countsB; rw [decide_eq_false (show ¬ l.length = 4 by omega)]; rfl⟩
    have hb1 : ((l.length : Int) == 4) = false := beq_eq_false_iff_ne.mpr h
    clear hall eg hr h
    go_enter Try.func45, Try.ntmps45
    go_wp2
    go_ret
    exact ⟨by rw [HE.out]; rfl, HB.out⟩

/-- Whether a sentence compares numbers, as the printed function says. -/
def weighB (x : S29) : Bool := (impl_isWeigh.f x.f0 x.f1 x.f2).getD false
theorem isWeigh_some (f o t : Int) : ∃ b, impl_isWeigh.f f o t = some b := by
  unfold impl_isWeigh.f
  repeat' split
  all_goals exact ⟨_, rfl⟩
theorem weighB_eq (x : S29) : impl_isWeigh.f x.f0 x.f1 x.f2 = some (weighB x) := by
  obtain ⟨b, h⟩ := isWeigh_some x.f0 x.f1 x.f2
  unfold weighB
  rw [h]; rfl
def weighedB (l : List S29) : Bool := decide (l.length ≤ 6) && l.all weighB

theorem areWeighed1 (w : World) (l : List S29) : PredSay 57 #[] (fun x => !weighB x) w l := by
  intro W x _ hb
  have HB := Aside0.mk (Below.refl W.heap.size W)
  have HK := Aside0.mk (weighB_eq x)
  clear hb
  obtain ⟨q, hq⟩ : ∃ q, weighB x = q := ⟨_, rfl⟩
  have HQ := Aside0.mk hq
  rw [hq] at HK
  clear hq
  go_enter Try.func57, Try.ntmps57
  go_wp2_with (go_at_call 37; refine (impl_isWeigh.calls x.f0 x.f1 x.f2 q _ HK.out).mono ?_; rintro e w' ⟨rfl, hb'⟩)
  go_ret
  exact ⟨by show _ = Ending.returned (.bool (!weighB x)); rw [HQ.out]; rfl, below_step (below_alloc HB.out _) hb'⟩

theorem areWeighed (A : Option Addr) (c : Nat) (l : List S29) (w : World) (hr : Kd.C k29 w A l.length l) :
    Calls Try.prog 36 #[.slice A l.length c] w fun e w' => e = .returned (.bool (weighedB l)) ∧ Below w.heap.size w w' := by
  have hlen : l.length ≤ 9223372036854775807 := hr.2.1
  have HB := Aside0.mk (Below.refl w.heap.size w)
  have eg := enters_of Try.func57 (by kernel_rfl) rfl
  have hall : l.all weighB = !l.any (fun x => !weighB x) := by rw [List.not_any_eq_all_not]; simp
  by_cases h : (l.length : Int) ≤ 6
  · have HE : Aside0 (weighedB l = !l.any (fun x => !weighB x)) := ⟨by unfold weighedB; rw [hall, decide_eq_true (show l.length ≤ 6 by omega)]; rfl⟩
    have HF := Aside0.mk (ContainsFunc (fun x => !weighB x) 57 #[] eg A c l w (areWeighed1 w l) hr)
    clear hall eg hr
    go_enter Try.func36, Try.ntmps36
    go_wp2_with (go_at_call 56; refine HF.out.mono ?_; rintro e w' ⟨rfl, hb'⟩)
    go_ret
    exact ⟨by rw [HE.out]; rfl, hb'⟩
  · have HE : Aside0 (weighedB l = false) := ⟨by unfold weighedB; rw [decide_eq_false (show ¬ l.length ≤ 6 by omega)]; rfl⟩
    clear hall eg hr
    go_enter Try.func36, Try.ntmps36
    go_wp2
    go_ret
    exact ⟨by rw [HE.out]; rfl, HB.out⟩
end Go.Proofs.Ytmbninbecclbiaa.Man
