/- The law laws_FnExactSaysYes: for every input the call returns true and the input reads as it did; no condition. -/
import Derived.Test.YtjfgbpmkboncnaaDoorRows
import Derived.Test.YtjfgbpmkboncnaaDoorPAx11
import Derived.Test.YtjfgbpmkboncnaaDoorPureFnExactSaysYes
import Derived.Test.YtjfgbpmkboncnaaDoorMyRead
import Derived.Test.YtjfgbpmkboncnaaDoorMyFacts
import Derived.WalkKit
import Derived.ProofKit
import Derived.OpenShut
import Derived.ShutString
import Derived.ChangeOld
import Derived.Below
import Derived.SizedLaws
import Derived.LaidMore
import Derived.Lay
import Derived.SevenTiedAt
import Derived.Stop.Joined
import Derived.Test.YtjfgbpmkboncnaaDoorTie
import Derived.Test.YtjfgbpmkboncnaaDoorCards
import Derived.Test.YtjfgbpmkboncnaaDoorWSized
namespace Go.Proofs.YtjfgbpmkboncnaaDoor.fnExactSaysYes
open Go.ChangeShapes Go.WideShapes Go.ChangeAt Go.RowKit
open Go.ChangeMaps (open_string shut_string)
set_option linter.unusedVariables false
theorem own : ownKnob Tryd.prog.godebug = none := by kernel_rfl
theorem laidOut : laidOutB Tryd.prog = true := by kernel_rfl
set_option maxRecDepth 100000 in
theorem lifted (os : Os) (started : os.Started) (H : Type) (enc : TypeId × Value → H) :
    ReturnsInHanded {} Tryd.checked os 3 .any (fun w args => (Rows.fnExactSaysYesSpec.pre enc Tryd.prog Tryd.f3 Rows.fnExactSaysYesRow.domain false w args ∧ laidMetH Tryd.prog Rows.fnExactSaysYesRow.laid w) ∧ sizedMet enc Tryd.prog Tryd.f3 (OpenSpec.ofChange Rows.fnExactSaysYesSpec) false w args) (Rows.fnExactSaysYesSpec.post enc Tryd.prog Tryd.f3 false true false false) := by
  refine returnsInHanded_of_change_and (C := Tryd.checked) (X := fun w _ => laidMetH Tryd.prog Rows.fnExactSaysYesRow.laid w) (fun _ _ _ hh h => h.of_heap hh) own started (by kernel_rfl) Tryd.func3
    (ChangeSpec.witness_shaped (enc := enc) (C := Tryd.checked) (os := os) (X := fun w _ => laidMetH Tryd.prog Rows.fnExactSaysYesRow.laid w) false (World.laidAll Tryd.prog os Rows.fnExactSaysYesRow.laid) #[.agg #[.slice none 0 0, .slice none 0 0, .slice none 0 0], .string ByteArray.empty] 8 (World.laidAll_os _ _ _)
      (World.shaped_of_ZipB (by kernel_rfl) (by kernel_rfl)) (by kernel_rfl) (by kernel_rfl) (by kernel_rfl)
      (by rw [MakeChecks.laidMetH_plain _ _ _ (by kernel_rfl)]; exact laidMet_laidAll _ (by kernel_rfl) (by kernel_rfl))) ?_
  intro W base args ds gs before hval0 hW hcnd hsz0 hL_ _
  have hsz : (DataW.weightsEach Tryd.prog (Tryd.f3.params.toList ++ Rows.fnExactSaysYesSpec.plain.varTypes Tryd.prog) (ds ++ gs)).all (· ≤ reachBytes) = true := hsz0
  have hval : ∀ (j : Nat) t v, Tryd.f3.params[j]? = some t → args[j]? = some v → Value.okWide Tryd.prog W .any base t v := hval0
  have hW' := hW
  obtain ⟨p, q, hA0, hV, rfl, hfz, hnd⟩ := hW
  have hA : DataW.TrodAll enc Tryd.prog W 0 (fun _ => true) true Tryd.f3.params.toList args.toList ds p := hA0
  rw [Tryd.params3] at hA hval hsz
  obtain ⟨v0, vs0, d0, ds0, p0, q0, hargs, rfl, rfl, h0, r0⟩ := trodAll_cons hA
  obtain ⟨v1, vs1, d1, ds1, p1, q1, rfl, rfl, rfl, h1, r1⟩ := trodAll_cons r0
  obtain ⟨rfl, rfl, rfl⟩ := trodAll_nil r1
  obtain rfl : args = #[v0, v1] := by cases args; simp_all
  obtain ⟨rfl, rfl⟩ := trodVars_none hV
  have k0 := h0
  have lt0 : ∀ x ∈ p0, x.block < W.heap.size := by obtain ⟨m, hm⟩ := k0; exact DataW.trod_lt m _ _ _ hm
  obtain ⟨A0_0, A0_1, A0_2, c0_0, c0_1, c0_2, l0_0, l0_1, l0_2, rfl, ⟨m0_0, M0_0⟩, ⟨m0_1, M0_1⟩, ⟨m0_2, M0_2⟩, hr0_0, hr0_1, hr0_2, w0_0, w0_1, w0_2⟩ := MyOpen.open_machine Tryd.underlying24 (by kernel_rfl) (by kernel_rfl) Tryd.underlying22 Tryd.underlying22 Tryd.underlying22 Tryd.underlying3 (by kernel_rfl) (hval 0 24 v0 rfl rfl) h0
  have b0_0 : l0_0.length ≤ 9223372036854775807 := by have h_ : maxLen = 9223372036854775807 := (by unfold maxLen; rfl); omega
  have b0_1 : l0_1.length ≤ 9223372036854775807 := by have h_ : maxLen = 9223372036854775807 := (by unfold maxLen; rfl); omega
  have b0_2 : l0_2.length ≤ 9223372036854775807 := by have h_ : maxLen = 9223372036854775807 := (by unfold maxLen; rfl); omega
  obtain ⟨a1, rfl, rfl, rfl, y1⟩ := open_string Tryd.underlying9 (hval 1 9 v1 rfl rfl) h1
  have w1 : a1.size ≤ 140737488351232 := by
    have z := sized_string hsz (j := 1) (t := 9) rfl rfl
    rw [Array.length_toList] at z
    exact z
  clear hA0 hval0 hsz0 hsz
  obtain ⟨kk, hk⟩ := Pure.FnExactSaysYes l0_0 b0_0 w0_0 l0_1 b0_1 w0_1 l0_2 b0_2 w0_2 a1 w1
  refine (PA.laws_FnExactSaysYes.calls (k := kk) (r := true) (w := W) (A0_0 := A0_0) (c0_0 := c0_0) (l0_0 := l0_0) (A0_1 := A0_1) (c0_1 := c0_1) (l0_1 := l0_1) (A0_2 := A0_2) (c0_2 := c0_2) (l0_2 := l0_2) (a1 := a1) (hr0_0 := MyOpen.c_of hr0_0) (hc0_0 := m0_0) (hr0_1 := MyOpen.c_of hr0_1) (hc0_1 := m0_1) (hr0_2 := MyOpen.c_of hr0_2) (hc0_2 := m0_2) (h := hk)).mono fun e W' ⟨he, bel0⟩ => ?_
  have bel : Below W.heap.size W W' := by first | exact bel0 | exact MyOpen.below_of_drawn bel0.out
  subst he
  exact ⟨_, rfl, _, _, _, [], _, [], hW', trodAll_mk1 (shut_bool Tryd.underlying4 _), (trodAll_cons_mk (Below.trod laidOut (by kernel_rfl) (of_decide_eq_true (by kernel_rfl)) k0 bel lt0) (trodAll_cons_mk (shut_string Tryd.underlying9 y1) trodAll_mk0)), rfl, bel.frame _, fun h => by cases h⟩
theorem closed : joinedFacts Tryd.prog 3 Tryd.f3 Rows.fnExactSaysYesSpec Rows.fnExactSaysYesRow = true := by
  unfold joinedFacts
  rw [MyFacts.makeIs, MyFacts.mayIs, MyFacts.liftIs]
  kernel_rfl
theorem over : Rows.fnExactSaysYesRow.holds Tryd.pinned (OpenSpec.ofChange Rows.fnExactSaysYesSpec) :=
  OpenClaim.holds_of_wide 3 Tryd.f3 rfl rfl rfl rfl rfl rfl rfl ⟨rfl, rfl, rfl, rfl, rfl⟩ rfl rfl rfl rfl rfl (by kernel_rfl) Tryd.func3 closed
    (of_decide_eq_true (by kernel_rfl)) (by unfold Func.isWrapper; first | (rw [if_pos (by decide +kernel)]; kernel_rfl) | (rw [if_neg (by decide +kernel)]; exact ⟨rfl, rfl⟩))
    (fun os started H enc _ => lifted os started H enc)
theorem card : Rows.FnExactSaysYesCardSaid :=
  Claim7.holds_tied_plain_at .later [] [.data, .pinned] true (true, "1cdf0f55b8f95a4fa4631990367f24267412ae60faed383f17f0299b5fb76ae3") false over (fun _ h => by cases h) (by kernel_rfl) (fun _ h => by cases h) fnExactSaysYes_row_tie rfl ⟨rfl, rfl⟩ (by kernel_rfl) rfl
    (fun f fn hf hfn => by
      obtain rfl : f = 3 := Option.some.inj ((show Tryd.prog.funcNamed "loop.example/quantifiers/laws.FnExactSaysYes" = some 3 by kernel_rfl).symm.trans hf) |>.symm
      obtain rfl : fn = Tryd.f3 := (Option.some.inj (Tryd.func3.symm.trans hfn)).symm
      exact ⟨by kernel_rfl, fun j t ht => by
        rw [Tryd.params3] at ht
        have hm : t ∈ [24, 9] := by simpa using Array.mem_of_getElem? ht
        have hall : ([24, 9].all fun u => !Tryd.prog.wantsStandIn u) = true := by kernel_rfl
        exact (show Tryd.prog.wantsStandIn t = false by simpa using List.all_eq_true.1 hall t hm)⟩)
    (by kernel_rfl)
#print axioms card
end Go.Proofs.YtjfgbpmkboncnaaDoor.fnExactSaysYes
namespace Go.Proofs.YtjfgbpmkboncnaaDoor
/-- The card, under a short name, for the claim. -/
theorem fnExactSaysYes_holds : Rows.FnExactSaysYesCardSaid := fnExactSaysYes.card
end Go.Proofs.YtjfgbpmkboncnaaDoor
