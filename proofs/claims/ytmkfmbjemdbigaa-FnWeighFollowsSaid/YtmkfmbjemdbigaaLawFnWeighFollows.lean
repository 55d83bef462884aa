/- The law laws_FnWeighFollows: for every input the call returns true and the input reads as it did; no condition. -/
import Derived.Test.YtmkfmbjemdbigaaRows
import Derived.Test.YtmkfmbjemdbigaaPAx33
import Derived.Test.YtmkfmbjemdbigaaPureFnWeighFollows
import Derived.Test.YtmkfmbjemdbigaaMyRead
import Derived.Test.YtmkfmbjemdbigaaMyFacts
import Derived.WalkKit
import Derived.ProofKit
import Derived.OpenShut
import Derived.ShutString
import Derived.ChangeOld
import Derived.Below
import Derived.SizedLaws
import Derived.Test.YtmkfmbjemdbigaaWAll
namespace Go.Proofs.Ytmkfmbjemdbigaa.fnWeighFollows
open Go.ChangeShapes Go.WideShapes Go.ChangeAt Go.RowKit
open Go.ChangeMaps (open_string shut_string)
set_option linter.unusedVariables false
theorem own : ownKnob Try.prog.godebug = none := by kernel_rfl
theorem laidOut : laidOutB Try.prog = true := by kernel_rfl
set_option maxRecDepth 100000 in
theorem lifted (os : Os) (started : os.Started) (H : Type) (enc : TypeId × Value → H) :
    ReturnsInHanded {} Try.checked os 3 .any (Rows.fnWeighFollowsSpec.pre6 enc Try.prog Try.f3 Rows.fnWeighFollowsRow.domain false) (Rows.fnWeighFollowsSpec.post enc Try.prog Try.f3 false true false false) := by
  refine returnsInHanded_of_change_sized (C := Try.checked) own started (by kernel_rfl) Try.func3
    (ChangeSpec.witness6 (enc := enc) (C := Try.checked) false ⟨#[], #[.slice none 0 0, .slice none 0 0], []⟩ 8 (by kernel_rfl) (by kernel_rfl) (by kernel_rfl) (by kernel_rfl)) ?_
  intro W base args ds gs before hval0 hW hcnd hsz0 _
  have hsz : (DataW.weightsEach Try.prog (Try.f3.params.toList ++ Rows.fnWeighFollowsSpec.plain.varTypes Try.prog) (ds ++ gs)).all (· ≤ reachBytes) = true := hsz0
  have hval : ∀ (j : Nat) t v, Try.f3.params[j]? = some t → args[j]? = some v → Value.okWide Try.prog W .any base t v := hval0
  have hW' := hW
  obtain ⟨p, q, hA0, hV, rfl, hfz, hnd⟩ := hW
  have hA : DataW.TrodAll enc Try.prog W 0 (fun _ => true) true Try.f3.params.toList args.toList ds p := hA0
  rw [Try.params3] at hA hval hsz
  obtain ⟨v0, vs0, d0, ds0, p0, q0, hargs, rfl, rfl, h0, r0⟩ := trodAll_cons hA
  obtain ⟨v1, vs1, d1, ds1, p1, q1, rfl, rfl, rfl, h1, r1⟩ := trodAll_cons r0
  obtain ⟨rfl, rfl, rfl⟩ := trodAll_nil r1
  obtain rfl : args = #[v0, v1] := by cases args; simp_all
  obtain ⟨rfl, rfl⟩ := trodVars_none hV
  have k0 := h0
  have lt0 : ∀ x ∈ p0, x.block < W.heap.size := by obtain ⟨m, hm⟩ := k0; exact DataW.trod_lt m _ _ _ hm
  obtain ⟨A0, c0, l0, rfl, m0, M0, hr0, w0⟩ := MyOpen.open_ints1 Try.underlying22 Try.underlying5 (by kernel_rfl) (hval 0 22 v0 rfl rfl) h0
  have b0 : l0.length ≤ 9223372036854775807 := by have h_ : maxLen = 9223372036854775807 := (by unfold maxLen; rfl); omega
  have k1 := h1
  have lt1 : ∀ x ∈ p1, x.block < W.heap.size := by obtain ⟨m, hm⟩ := k1; exact DataW.trod_lt m _ _ _ hm
  obtain ⟨A1, c1, l1, rfl, m1, M1, hr1, w1⟩ := MyOpen.open_ints1 Try.underlying22 Try.underlying5 (by kernel_rfl) (hval 1 22 v1 rfl rfl) h1
  have b1 : l1.length ≤ 9223372036854775807 := by have h_ : maxLen = 9223372036854775807 := (by unfold maxLen; rfl); omega
  clear hA0 hval0 hsz0 hsz
  obtain ⟨kk, hk⟩ := Pure.FnWeighFollows l0 b0 w0 l1 b1 w1
  refine (PA.laws_FnWeighFollows.calls (k := kk) (r := true) (w := W) (A0 := A0) (c0 := c0) (l0 := l0) (A1 := A1) (c1 := c1) (l1 := l1) (hr0 := MyOpen.c_of hr0) (hc0 := m0) (hr1 := MyOpen.c_of hr1) (hc1 := m1) (h := hk)).mono fun e W' ⟨he, bel0⟩ => ?_
  have bel : Below W.heap.size W W' := by exact bel0
  subst he
  exact ⟨_, rfl, _, _, _, [], _, [], hW', trodAll_mk1 (shut_bool Try.underlying4 _), (trodAll_cons_mk (Below.trod laidOut (by kernel_rfl) (of_decide_eq_true (by kernel_rfl)) k0 bel lt0) (trodAll_cons_mk (Below.trod laidOut (by kernel_rfl) (of_decide_eq_true (by kernel_rfl)) k1 bel lt1) trodAll_mk0)), rfl, bel.frame _, fun h => by cases h⟩
theorem closed : joinedFacts Try.prog 3 Try.f3 Rows.fnWeighFollowsSpec Rows.fnWeighFollowsRow = true := by
  unfold joinedFacts
  rw [MyFacts.makeIs, MyFacts.mayIs, MyFacts.liftIs]
  kernel_rfl
theorem over : Rows.fnWeighFollowsRow.holds Try.pinned (OpenSpec.ofChange Rows.fnWeighFollowsSpec) :=
  OpenClaim.holds_of_wide 3 Try.f3 rfl rfl rfl rfl rfl rfl rfl ⟨rfl, rfl, rfl, rfl, rfl⟩ rfl rfl rfl rfl rfl (by kernel_rfl) Try.func3 closed
    (of_decide_eq_true (by kernel_rfl)) (by unfold Func.isWrapper; (rw [if_neg (by decide +kernel)]; exact ⟨rfl, rfl⟩))
    (fun os started H enc _ => lifted os started H enc)
theorem proved : Rows.FnWeighFollowsSaid := over
#print axioms proved
end Go.Proofs.Ytmkfmbjemdbigaa.fnWeighFollows
namespace Go.Proofs.Ytmkfmbjemdbigaa
/-- The row, under a short name, for the claim. -/
theorem fnWeighFollows_holds : Rows.FnWeighFollowsSaid := fnWeighFollows.proved
end Go.Proofs.Ytmkfmbjemdbigaa
