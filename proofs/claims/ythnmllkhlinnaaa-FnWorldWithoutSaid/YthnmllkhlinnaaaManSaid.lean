/- impl.areSaid: its closure, and the call: it answers whether there are at most six sentences, all allowed; no condition. -/
import Derived.Test.YthnmllkhlinnaaaManFunc
import Derived.Test.YthnmllkhlinnaaaPAx25
namespace Go.Proofs.Ythnmllkhlinnaaa.Man
open Go.RowKit Go.Proofs.Ythnmllkhlinnaaa.PA Go.Proofs.YthnmllkhlinnaaaW.PrintWords Go.Proofs.YthnmllkhlinnaaaW.PrintLast Go.Proofs.YthnmllkhlinnaaaW.PrintMore
set_option linter.unusedVariables false
set_option linter.unusedSimpArgs false

/-- Whether a sentence is allowed, as the printed function says. -/
def okB (k : Int) (x : S29) : Bool := (impl_isSay.f k x.f0 x.f1 x.f2).getD false
theorem isSay_some (k f o t : Int) : ∃ b, impl_isSay.f k f o t = some b := by
  unfold impl_isSay.f
  repeat' split
  all_goals exact ⟨_, rfl⟩
theorem okB_eq (k : Int) (x : S29) : impl_isSay.f k x.f0 x.f1 x.f2 = some (okB k x) := by
  obtain ⟨b, h⟩ := isSay_some k x.f0 x.f1 x.f2
  unfold okB
  rw [h]; rfl

/-- The closure: whether a sentence is not allowed. -/
theorem areSaid1 (B : Nat) (k : Int) (w : World) (hB : B < w.heap.size) (hc : w.cell? ⟨B, 0, none⟩ = some (.int .i64 k)) (l : List S29) :
    PredSay 42 #[.pointer (some ⟨B, 0, none⟩)] (fun x => !okB k x) w l := by
  intro W x _ hb
  have hc' := (hb.cell (p := ⟨B, 0, none⟩) hB).trans hc
  have HB := Aside0.mk (Below.refl W.heap.size W)
  have HK := Aside0.mk (okB_eq k x)
  have HN : B < W.heap.size := Nat.lt_of_lt_of_le hB hb.size
  have hne : ¬ W.heap.size = B := by omega
  clear hc hb hB
  obtain ⟨q, hq⟩ : ∃ q, okB k x = q := ⟨_, rfl⟩
  have HQ := Aside0.mk hq
  rw [hq] at HK
  clear hq
  go_enter Try.func42, Try.ntmps42
  go_wp2_with (go_at_call 27; refine (impl_isSay.calls k x.f0 x.f1 x.f2 q _ HK.out).mono ?_; rintro e w' ⟨rfl, hb'⟩)
  go_ret
  exact ⟨by show _ = Ending.returned (.bool (!okB k x)); rw [HQ.out]; rfl, below_step (below_alloc HB.out _) hb'⟩

/-- What areSaid answers. -/
def saidB (k : Int) (l : List S29) : Bool := decide (1 ≤ k ∧ k ≤ 3) && decide (l.length ≤ 6) && l.all (okB k)

set_option maxHeartbeats 1000000 in
theorem areSaid (k : Int) (A : Option Addr) (c : Nat) (l : List S29) (w : World) (hr : Kd.C k29 w A l.length l) :
    Calls Try.prog 26 #[.int .i64 k, .slice A l.length c] w fun e w' => e = .returned (.bool (saidB k l)) ∧ Below w.heap.size w w' := by
  have hlen : l.length ≤ 9223372036854775807 := hr.2.1
  have HB := Aside0.mk (Below.refl w.heap.size w)
  have eg := enters_of Try.func42 (by kernel_rfl) rfl
  have hall : l.all (okB k) = !l.any (fun x => !okB k x) := by rw [List.not_any_eq_all_not]; simp
  have HS : Aside0 (saidB k l = (decide (1 ≤ k ∧ k ≤ 3) && decide (l.length ≤ 6) && !l.any (fun x => !okB k x))) := ⟨by unfold saidB; rw [hall]⟩
  clear hall
  by_cases h1 : k < 1
  · have HE : Aside0 (saidB k l = false) := ⟨by rw [HS.out]; simp; omega⟩
    go_enter Try.func26, Try.ntmps26
    go_wp2
    go_ret
    exact ⟨by rw [HE.out]; rfl, below_alloc HB.out _⟩
  · by_cases h2 : k > 3
    · have HE : Aside0 (saidB k l = false) := ⟨by rw [HS.out]; simp; omega⟩
      go_enter Try.func26, Try.ntmps26
      go_wp2
      go_ret
      exact ⟨by rw [HE.out]; rfl, below_alloc HB.out _⟩
    · by_cases h3 : (l.length : Int) > 6
      · have HE : Aside0 (saidB k l = false) := ⟨by rw [HS.out]; simp; omega⟩
        go_enter Try.func26, Try.ntmps26
        go_wp2
        go_ret
        exact ⟨by rw [HE.out]; rfl, below_alloc HB.out _⟩
      · have HE : Aside0 (saidB k l = !l.any (fun x => !okB k x)) := ⟨by rw [HS.out, decide_eq_true (show 1 ≤ k ∧ k ≤ 3 by omega), decide_eq_true (show l.length ≤ 6 by omega)]; rfl⟩
        have HF := Aside0.mk (fun W hB hc => ContainsFunc (fun x => !okB k x) 42 #[.pointer (some ⟨w.heap.size, 0, none⟩)] eg A c l W (areSaid1 w.heap.size k W hB hc l))
        have HR := Aside0.mk hr
        clear hr HS eg
        go_enter Try.func26, Try.ntmps26
        go_wp2_with (go_at_call 33; refine (HF.out _ (by simp) (by simp) (Kd.C_below HR.out (below_alloc HB.out _))).mono ?_; rintro e w' ⟨rfl, hb'⟩)
        go_ret
        exact ⟨by rw [HE.out]; rfl, below_step (below_alloc HB.out _) hb'⟩
end Go.Proofs.Ythnmllkhlinnaaa.Man
