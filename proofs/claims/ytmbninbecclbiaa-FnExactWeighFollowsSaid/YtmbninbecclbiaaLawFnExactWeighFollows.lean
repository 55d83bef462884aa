/- The law laws_FnExactWeighFollows: for every input the call returns true and the input reads as it did; no condition. -/
import Derived.Test.YtmbninbecclbiaaRows
import Derived.Test.YtmbninbecclbiaaPAx24
import Derived.Test.YtmbninbecclbiaaPureFnExactWeighFollows
import Derived.Test.YtmbninbecclbiaaMyRead
import Derived.Test.YtmbninbecclbiaaMyFacts
import Derived.WalkKit
import Derived.ProofKit
import Derived.OpenShut
import Derived.ShutString
import Derived.ChangeOld
import Derived.Below
import Derived.SizedLaws
import Derived.Test.YtmbninbecclbiaaWAll
namespace Go.Proofs.Ytmbninbecclbiaa.fnExactWeighFollows
open Go.ChangeShapes Go.WideShapes Go.ChangeAt Go.RowKit
open Go.ChangeMaps (open_string shut_string)
set_option linter.unusedVariables false
theorem own : ownKnob Try.prog.godebug = none := by kernel_rfl
theorem laidOut : laidOutB Try.prog = true := by kernel_rfl
set_option maxRecDepth 100000 in
theorem lifted (os : Os) (started : os.Started) (H : Type) (enc : TypeId × Value → H) :
    ReturnsInHanded {} Try.checked os 3 .any (Rows.fnExactWeighFollowsSpec.pre6 enc Try.prog Try.f3 Rows.fnExactWeighFollowsRow.domain false) (Rows.fnExactWeighFollowsSpec.post enc Try.prog Try.f3 false true false false) := by
  refine returnsInHanded_of_change_sized (C := Try.checked) own started (by kernel_rfl) Try.func3
    (ChangeSpec.witness6 (enc := enc) (C := Try.checked) false ⟨#[], #[.slice none 0 0, .agg #[.int .i64 0, .int .i64 0, .int .i64 0]], []⟩ 8 (by kernel_rfl) (by kernel_rfl) (by kernel_rfl) (by kernel_rfl)) ?_
  intro W base args ds gs before hval0 hW hcnd hsz0 _
  have hsz : (DataW.weightsEach Try.prog (Try.f3.params.toList ++ Rows.fnExactWeighFollowsSpec.plain.varTypes Try.prog) (ds ++ gs)).all (· ≤ reachBytes) = true := hsz0
  have hval : ∀ (j : Nat) t v, Try.f3.params[j]? = some t → args[j]? = some v → Value.okWide Try.prog W .any base t v := hval0
  have hW' := hW
  obtain ⟨p, q, hA0, hV, rfl, hfz, hnd⟩ := hW
  have hA : DataW.TrodAll enc Try.prog W 0 (fun _ => true) true Try.f3.params.toList args.toList ds p := hA0
  rw [Try.params3] at hA hval hsz
  obtain ⟨v0, vs0, d0, ds0, p0, q0, hargs, rfl, rfl, h0, r0⟩ := trodAll_cons hA
  obtain ⟨v1, vs1, d1, ds1, p1, q1, rfl, rfl, rfl, h1, r1⟩ := trodAll_cons r0
  obtain ⟨rfl, rfl, rfl⟩ := trodAll_nil r1
  obtain rfl : args = #[v0, v1] := by cases args; simp_all
  obtain ⟨rfl, rfl⟩ := trodVars_none hV
  have k0 := h0
  have lt0 : ∀ x ∈ p0, x.block < W.heap.size := by obtain ⟨m, hm⟩ := k0; exact DataW.trod_lt m _ _ _ hm
  obtain ⟨A0, c0, l0, rfl, m0, M0, hr0, w0⟩ := MyRead.open24 Try.underlying22 (hval 0 22 v0 rfl rfl) h0
  have b0 : l0.length ≤ 9223372036854775807 := by have h_ : maxLen = 9223372036854775807 := (by unfold maxLen; rfl); omega
  have k1 := h1
  have lt1 : ∀ x ∈ p1, x.block < W.heap.size := by obtain ⟨m, hm⟩ := k1; exact DataW.trod_lt m _ _ _ hm
  obtain ⟨a1_0, a1_1, a1_2, rfl, w1_0, w1_1, w1_2⟩ := MyOpen.open_int3 Try.underlying24 (by kernel_rfl) (by kernel_rfl) Try.underlying3 Try.underlying3 Try.underlying3 (hval 1 24 v1 rfl rfl) h1
  clear hA0 hval0 hsz0 hsz
  obtain ⟨kk, hk⟩ := Pure.FnExactWeighFollows l0 b0 w0 a1_0 w1_0 a1_1 w1_1 a1_2 w1_2
  refine (PA.laws_FnExactWeighFollows.calls (k := kk) (r := true) (w := W) (A0 := A0) (c0 := c0) (l0 := l0) (a1_0 := a1_0) (a1_1 := a1_1) (a1_2 := a1_2) (hr0 := hr0) (hc0 := m0) (h := hk)).mono fun e W' ⟨he, bel0⟩ => ?_
  have bel : Below W.heap.size W W' := by first | exact bel0 | exact MyOpen.below_of_drawn bel0.out
  subst he
  exact ⟨_, rfl, _, _, _, [], _, [], hW', trodAll_mk1 (shut_bool Try.underlying4 _), (trodAll_cons_mk (Below.trod laidOut (by kernel_rfl) (of_decide_eq_true (by kernel_rfl)) k0 bel lt0) (trodAll_cons_mk (Below.trod laidOut (by kernel_rfl) (of_decide_eq_true (by kernel_rfl)) k1 bel lt1) trodAll_mk0)), rfl, bel.frame _, fun h => by cases h⟩
theorem closed : joinedFacts Try.prog 3 Try.f3 Rows.fnExactWeighFollowsSpec Rows.fnExactWeighFollowsRow = true := by
  unfold joinedFacts
  rw [MyFacts.makeIs, MyFacts.mayIs, MyFacts.liftIs]
  kernel_rfl
theorem over : Rows.fnExactWeighFollowsRow.holds Try.pinned (OpenSpec.ofChange Rows.fnExactWeighFollowsSpec) :=
  OpenClaim.holds_of_wide 3 Try.f3 rfl rfl rfl rfl rfl rfl rfl ⟨rfl, rfl, rfl, rfl, rfl⟩ rfl rfl rfl rfl rfl (by kernel_rfl) Try.func3 closed
    (of_decide_eq_true (by kernel_rfl)) (by unfold Func.isWrapper; first | (rw [if_pos (by decide +kernel)]; kernel_rfl) | (rw [if_neg (by decide +kernel)]; exact ⟨rfl, rfl⟩))
    (fun os started H enc _ => lifted os started H enc)
theorem proved : Rows.FnExactWeighFollowsSaid := over
#print axioms proved
end Go.Proofs.Ytmbninbecclbiaa.fnExactWeighFollows
namespace Go.Proofs.Ytmbninbecclbiaa
/-- The row, under a short name, for the claim. -/
theorem fnExactWeighFollows_holds : Rows.FnExactWeighFollowsSaid := fnExactWeighFollows.proved
end Go.Proofs.Ytmbninbecclbiaa
