/- The law laws_FnExactTriangleOf: for every input the call returns true and the input reads as it did; no condition. -/
import Derived.Test.YtlgdhmjoemdmlaaRows
import Derived.Test.YtlgdhmjoemdmlaaPAx16
import Derived.Test.YtlgdhmjoemdmlaaPureFnExactTriangleOf
import Derived.Test.YtlgdhmjoemdmlaaMyRead
import Derived.Test.YtlgdhmjoemdmlaaMyFacts
import Derived.WalkKit
import Derived.ProofKit
import Derived.OpenShut
import Derived.ShutString
import Derived.ChangeOld
import Derived.Below
import Derived.SizedLaws
import Derived.Test.YtlgdhmjoemdmlaaWSized
namespace Go.Proofs.Ytlgdhmjoemdmlaa.fnExactTriangleOf
open Go.ChangeShapes Go.WideShapes Go.ChangeAt Go.RowKit
open Go.ChangeMaps (open_string shut_string)
set_option linter.unusedVariables false
theorem own : ownKnob Try.prog.godebug = none := by kernel_rfl
theorem laidOut : laidOutB Try.prog = true := by kernel_rfl
set_option maxRecDepth 100000 in
theorem lifted (os : Os) (started : os.Started) (H : Type) (enc : TypeId × Value → H) :
    ReturnsInHanded {} Try.checked os 3 .any (Rows.fnExactTriangleOfSpec.pre6 enc Try.prog Try.f3 Rows.fnExactTriangleOfRow.domain false) (Rows.fnExactTriangleOfSpec.post enc Try.prog Try.f3 false true false false) := by
  refine returnsInHanded_of_change_sized (C := Try.checked) own started (by kernel_rfl) Try.func3
    (ChangeSpec.witness6 (enc := enc) (C := Try.checked) false ⟨#[], #[.agg #[.slice none 0 0, .slice none 0 0, .slice none 0 0]], []⟩ 8 (by kernel_rfl) (by kernel_rfl) (by kernel_rfl) (by kernel_rfl)) ?_
  intro W base args ds gs before hval0 hW hcnd hsz0 _
  have hsz : (DataW.weightsEach Try.prog (Try.f3.params.toList ++ Rows.fnExactTriangleOfSpec.plain.varTypes Try.prog) (ds ++ gs)).all (· ≤ reachBytes) = true := hsz0
  have hval : ∀ (j : Nat) t v, Try.f3.params[j]? = some t → args[j]? = some v → Value.okWide Try.prog W .any base t v := hval0
  have hW' := hW
  obtain ⟨p, q, hA0, hV, rfl, hfz, hnd⟩ := hW
  have hA : DataW.TrodAll enc Try.prog W 0 (fun _ => true) true Try.f3.params.toList args.toList ds p := hA0
  rw [Try.params3] at hA hval hsz
  obtain ⟨v0, vs0, d0, ds0, p0, q0, hargs, rfl, rfl, h0, r0⟩ := trodAll_cons hA
  obtain ⟨rfl, rfl, rfl⟩ := trodAll_nil r0
  obtain rfl : args = #[v0] := by cases args; simp_all
  obtain ⟨rfl, rfl⟩ := trodVars_none hV
  have k0 := h0
  have lt0 : ∀ x ∈ p0, x.block < W.heap.size := by obtain ⟨m, hm⟩ := k0; exact DataW.trod_lt m _ _ _ hm
  obtain ⟨A0_0, A0_1, A0_2, c0_0, c0_1, c0_2, l0_0, l0_1, l0_2, rfl, ⟨m0_0, M0_0⟩, ⟨m0_1, M0_1⟩, ⟨m0_2, M0_2⟩, hr0_0, hr0_1, hr0_2, w0_0, w0_1, w0_2⟩ := MyOpen.open_machine Try.underlying24 (by kernel_rfl) (by kernel_rfl) Try.underlying22 Try.underlying22 Try.underlying22 Try.underlying3 (by kernel_rfl) (hval 0 24 v0 rfl rfl) h0
  have b0_0 : l0_0.length ≤ 9223372036854775807 := by have h_ : maxLen = 9223372036854775807 := (by unfold maxLen; rfl); omega
  have b0_1 : l0_1.length ≤ 9223372036854775807 := by have h_ : maxLen = 9223372036854775807 := (by unfold maxLen; rfl); omega
  have b0_2 : l0_2.length ≤ 9223372036854775807 := by have h_ : maxLen = 9223372036854775807 := (by unfold maxLen; rfl); omega
  clear hA0 hval0 hsz0 hsz
  obtain ⟨kk, hk⟩ := Pure.FnExactTriangleOf l0_0 b0_0 w0_0 l0_1 b0_1 w0_1 l0_2 b0_2 w0_2
  refine (PA.laws_FnExactTriangleOf.calls (k := kk) (r := true) (w := W) (A0_0 := A0_0) (c0_0 := c0_0) (l0_0 := l0_0) (A0_1 := A0_1) (c0_1 := c0_1) (l0_1 := l0_1) (A0_2 := A0_2) (c0_2 := c0_2) (l0_2 := l0_2) (hr0_0 := MyOpen.c_of hr0_0) (hc0_0 := m0_0) (hr0_1 := MyOpen.c_of hr0_1) (hc0_1 := m0_1) (hr0_2 := MyOpen.c_of hr0_2) (hc0_2 := m0_2) (h := hk)).mono fun e W' ⟨he, bel0⟩ => ?_
  have bel : Below W.heap.size W W' := by first | exact bel0 | exact MyOpen.below_of_drawn bel0.out
  subst he
  exact ⟨_, rfl, _, _, _, [], _, [], hW', trodAll_mk1 (shut_bool Try.underlying4 _), (trodAll_cons_mk (Below.trod laidOut (by kernel_rfl) (of_decide_eq_true (by kernel_rfl)) k0 bel lt0) trodAll_mk0), rfl, bel.frame _, fun h => by cases h⟩
theorem closed : joinedFacts Try.prog 3 Try.f3 Rows.fnExactTriangleOfSpec Rows.fnExactTriangleOfRow = true := by
  unfold joinedFacts
  rw [MyFacts.makeIs, MyFacts.mayIs, MyFacts.liftIs]
  kernel_rfl
theorem over : Rows.fnExactTriangleOfRow.holds Try.pinned (OpenSpec.ofChange Rows.fnExactTriangleOfSpec) :=
  OpenClaim.holds_of_wide 3 Try.f3 rfl rfl rfl rfl rfl rfl rfl ⟨rfl, rfl, rfl, rfl, rfl⟩ rfl rfl rfl rfl rfl (by kernel_rfl) Try.func3 closed
    (of_decide_eq_true (by kernel_rfl)) (by unfold Func.isWrapper; first | (rw [if_pos (by decide +kernel)]; kernel_rfl) | (rw [if_neg (by decide +kernel)]; exact ⟨rfl, rfl⟩))
    (fun os started H enc _ => lifted os started H enc)
theorem proved : Rows.FnExactTriangleOfSaid := over
#print axioms proved
end Go.Proofs.Ytlgdhmjoemdmlaa.fnExactTriangleOf
namespace Go.Proofs.Ytlgdhmjoemdmlaa
/-- The row, under a short name, for the claim. -/
theorem fnExactTriangleOf_holds : Rows.FnExactTriangleOfSaid := fnExactTriangleOf.proved
end Go.Proofs.Ytlgdhmjoemdmlaa
