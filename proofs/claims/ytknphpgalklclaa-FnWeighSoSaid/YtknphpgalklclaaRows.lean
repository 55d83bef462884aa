/-
  No cell of these rows narrows 'for every input' (looked for: loops, veiled, ifaces, maps, wideKeys, modest, calm, conditions, laid).
  DERIVED. THE GIVEN ROWS OF THIS SEAT. 14 by the template 'for every input the law returns true; each argument reads behind the call as it read before'; 0 by the template 'total and deterministic' (their statements: YtknphpgalklclaaTotals.lean).
  GIVEN WITH THE SEED: the statements are not yours to turn. If you find one false, say at which input.
  Laid BY PROGRAM, IN A SANDBOX (cutbox-rows.mjs): the forced cells as the released guide's own fill.sh prints them over the translation 92f99581444ae959… (all of the seat's roots in one cut). By AI agents, Wed Nov 11 2026. No macro, syntax, notation, axiom, sorry.
-/
import Derived.Test.YtknphpgalklclaaChecked
import GoSem.Claim
import GoSem.ClaimJoined
import GoSem.ClaimMapViews
import Derived.JoinedTies
import Derived.KernelRfl
namespace Go.Proofs.Ytknphpgalklclaa
/- THE CELL 'sum', in the pinned program and in every row, IS THE sha256 OF THE DUMP (.gsa) THAT YtknphpgalklclaaProg.lean LOADS. Nothing in Lean hashes anything: it is a label: what it is worth is what the hold of that sum in a sandbox is worth. -/
noncomputable def Try.pinned : Pinned := { name := "ytknphpgalklclaa", sum := "92f99581444ae959bb2c9a793c1fda691b5e533fba93cff5f591573a788a47de", checked := Try.checked }
namespace Rows
def none {H : Type} : Left H := { results := [], args := [] }

/-- 'laws.FnExactWeighOk': WHATEVER THE INPUT: true; the input reads as it did. -/
def fnExactWeighOkSpec : ChangeSpec := { name := "fnExactWeighOk", fn := fun _ => fun
  | [d] => { results := [.lit (.bool true)], args := [d] }
  | _ => none }
def fnExactWeighOkRow : OpenClaim := { program := "ytknphpgalklclaa", sum := "92f99581444ae959bb2c9a793c1fda691b5e533fba93cff5f591573a788a47de", func := "loop.example/quantifiers/laws.FnExactWeighOk", spec := "fnExactWeighOk", plainKeys := false, apart := false }
def FnExactWeighOkSaid : Prop := fnExactWeighOkRow.holds Try.pinned (OpenSpec.ofChange fnExactWeighOkSpec)

/-- ITS FALSE NEIGHBOUR: 'it returns false'. Refute it at one input. -/
def fnExactWeighOkWrong : ChangeSpec := { name := "fnExactWeighOk", fn := fun _ => fun
  | [d] => { results := [.lit (.bool false)], args := [d] }
  | _ => none }
def FnExactWeighOkWrongFalsely : Prop := fnExactWeighOkRow.holds Try.pinned (OpenSpec.ofChange fnExactWeighOkWrong)

/-- 'laws.FnExactCountsOk': WHATEVER THE INPUT: true; the input reads as it did. -/
def fnExactCountsOkSpec : ChangeSpec := { name := "fnExactCountsOk", fn := fun _ => fun
  | [d] => { results := [.lit (.bool true)], args := [d] }
  | _ => none }
def fnExactCountsOkRow : OpenClaim := { program := "ytknphpgalklclaa", sum := "92f99581444ae959bb2c9a793c1fda691b5e533fba93cff5f591573a788a47de", func := "loop.example/quantifiers/laws.FnExactCountsOk", spec := "fnExactCountsOk", unfollowed := true, recurses := true, plainKeys := false, apart := false }
def FnExactCountsOkSaid : Prop := fnExactCountsOkRow.holds Try.pinned (OpenSpec.ofChange fnExactCountsOkSpec)

/-- ITS FALSE NEIGHBOUR: 'it returns false'. Refute it at one input. -/
def fnExactCountsOkWrong : ChangeSpec := { name := "fnExactCountsOk", fn := fun _ => fun
  | [d] => { results := [.lit (.bool false)], args := [d] }
  | _ => none }
def FnExactCountsOkWrongFalsely : Prop := fnExactCountsOkRow.holds Try.pinned (OpenSpec.ofChange fnExactCountsOkWrong)

/-- 'laws.FnExactWeighFollows': WHATEVER THE INPUT: true; the input reads as it did. -/
def fnExactWeighFollowsSpec : ChangeSpec := { name := "fnExactWeighFollows", fn := fun _ => fun
  | [d1, d2] => { results := [.lit (.bool true)], args := [d1, d2] }
  | _ => none }
def fnExactWeighFollowsRow : OpenClaim := { program := "ytknphpgalklclaa", sum := "92f99581444ae959bb2c9a793c1fda691b5e533fba93cff5f591573a788a47de", func := "loop.example/quantifiers/laws.FnExactWeighFollows", spec := "fnExactWeighFollows", unfollowed := true, recurses := true, plainKeys := false, apart := false }
def FnExactWeighFollowsSaid : Prop := fnExactWeighFollowsRow.holds Try.pinned (OpenSpec.ofChange fnExactWeighFollowsSpec)

/-- ITS FALSE NEIGHBOUR: 'it returns false'. Refute it at one input. -/
def fnExactWeighFollowsWrong : ChangeSpec := { name := "fnExactWeighFollows", fn := fun _ => fun
  | [d1, d2] => { results := [.lit (.bool false)], args := [d1, d2] }
  | _ => none }
def FnExactWeighFollowsWrongFalsely : Prop := fnExactWeighFollowsRow.holds Try.pinned (OpenSpec.ofChange fnExactWeighFollowsWrong)

/-- 'laws.FnWeighOk': WHATEVER THE INPUT: true; the input reads as it did. -/
def fnWeighOkSpec : ChangeSpec := { name := "fnWeighOk", fn := fun _ => fun
  | [d] => { results := [.lit (.bool true)], args := [d] }
  | _ => none }
def fnWeighOkRow : OpenClaim := { program := "ytknphpgalklclaa", sum := "92f99581444ae959bb2c9a793c1fda691b5e533fba93cff5f591573a788a47de", func := "loop.example/quantifiers/laws.FnWeighOk", spec := "fnWeighOk", plainKeys := false, apart := false }
def FnWeighOkSaid : Prop := fnWeighOkRow.holds Try.pinned (OpenSpec.ofChange fnWeighOkSpec)

/-- ITS FALSE NEIGHBOUR: 'it returns false'. Refute it at one input. -/
def fnWeighOkWrong : ChangeSpec := { name := "fnWeighOk", fn := fun _ => fun
  | [d] => { results := [.lit (.bool false)], args := [d] }
  | _ => none }
def FnWeighOkWrongFalsely : Prop := fnWeighOkRow.holds Try.pinned (OpenSpec.ofChange fnWeighOkWrong)

/-- 'laws.FnExactContraryOf': WHATEVER THE INPUT: true; the input reads as it did. -/
def fnExactContraryOfSpec : ChangeSpec := { name := "fnExactContraryOf", fn := fun _ => fun
  | [d] => { results := [.lit (.bool true)], args := [d] }
  | _ => none }
def fnExactContraryOfRow : OpenClaim := { program := "ytknphpgalklclaa", sum := "92f99581444ae959bb2c9a793c1fda691b5e533fba93cff5f591573a788a47de", func := "loop.example/quantifiers/laws.FnExactContraryOf", spec := "fnExactContraryOf", plainKeys := false, apart := false }
def FnExactContraryOfSaid : Prop := fnExactContraryOfRow.holds Try.pinned (OpenSpec.ofChange fnExactContraryOfSpec)

/-- ITS FALSE NEIGHBOUR: 'it returns false'. Refute it at one input. -/
def fnExactContraryOfWrong : ChangeSpec := { name := "fnExactContraryOf", fn := fun _ => fun
  | [d] => { results := [.lit (.bool false)], args := [d] }
  | _ => none }
def FnExactContraryOfWrongFalsely : Prop := fnExactContraryOfRow.holds Try.pinned (OpenSpec.ofChange fnExactContraryOfWrong)

/-- 'laws.FnCountsOk': WHATEVER THE INPUT: true; the input reads as it did. -/
def fnCountsOkSpec : ChangeSpec := { name := "fnCountsOk", fn := fun _ => fun
  | [d] => { results := [.lit (.bool true)], args := [d] }
  | _ => none }
def fnCountsOkRow : OpenClaim := { program := "ytknphpgalklclaa", sum := "92f99581444ae959bb2c9a793c1fda691b5e533fba93cff5f591573a788a47de", func := "loop.example/quantifiers/laws.FnCountsOk", spec := "fnCountsOk", unfollowed := true, recurses := true, plainKeys := false, apart := false }
def FnCountsOkSaid : Prop := fnCountsOkRow.holds Try.pinned (OpenSpec.ofChange fnCountsOkSpec)

/-- ITS FALSE NEIGHBOUR: 'it returns false'. Refute it at one input. -/
def fnCountsOkWrong : ChangeSpec := { name := "fnCountsOk", fn := fun _ => fun
  | [d] => { results := [.lit (.bool false)], args := [d] }
  | _ => none }
def FnCountsOkWrongFalsely : Prop := fnCountsOkRow.holds Try.pinned (OpenSpec.ofChange fnCountsOkWrong)

/-- 'laws.FnCountsFor': WHATEVER THE INPUT: true; the input reads as it did. -/
def fnCountsForSpec : ChangeSpec := { name := "fnCountsFor", fn := fun _ => fun
  | [d1, d2] => { results := [.lit (.bool true)], args := [d1, d2] }
  | _ => none }
def fnCountsForRow : OpenClaim := { program := "ytknphpgalklclaa", sum := "92f99581444ae959bb2c9a793c1fda691b5e533fba93cff5f591573a788a47de", func := "loop.example/quantifiers/laws.FnCountsFor", spec := "fnCountsFor", unfollowed := true, recurses := true, plainKeys := false, apart := false }
def FnCountsForSaid : Prop := fnCountsForRow.holds Try.pinned (OpenSpec.ofChange fnCountsForSpec)

/-- ITS FALSE NEIGHBOUR: 'it returns false'. Refute it at one input. -/
def fnCountsForWrong : ChangeSpec := { name := "fnCountsFor", fn := fun _ => fun
  | [d1, d2] => { results := [.lit (.bool false)], args := [d1, d2] }
  | _ => none }
def FnCountsForWrongFalsely : Prop := fnCountsForRow.holds Try.pinned (OpenSpec.ofChange fnCountsForWrong)

/-- 'laws.FnWeighFollows': WHATEVER THE INPUT: true; the input reads as it did. -/
def fnWeighFollowsSpec : ChangeSpec := { name := "fnWeighFollows", fn := fun _ => fun
  | [d1, d2] => { results := [.lit (.bool true)], args := [d1, d2] }
  | _ => none }
def fnWeighFollowsRow : OpenClaim := { program := "ytknphpgalklclaa", sum := "92f99581444ae959bb2c9a793c1fda691b5e533fba93cff5f591573a788a47de", func := "loop.example/quantifiers/laws.FnWeighFollows", spec := "fnWeighFollows", unfollowed := true, recurses := true, plainKeys := false, apart := false }
def FnWeighFollowsSaid : Prop := fnWeighFollowsRow.holds Try.pinned (OpenSpec.ofChange fnWeighFollowsSpec)

/-- ITS FALSE NEIGHBOUR: 'it returns false'. Refute it at one input. -/
def fnWeighFollowsWrong : ChangeSpec := { name := "fnWeighFollows", fn := fun _ => fun
  | [d1, d2] => { results := [.lit (.bool false)], args := [d1, d2] }
  | _ => none }
def FnWeighFollowsWrongFalsely : Prop := fnWeighFollowsRow.holds Try.pinned (OpenSpec.ofChange fnWeighFollowsWrong)

/-- 'laws.FnExactWeighSo': WHATEVER THE INPUT: true; the input reads as it did. -/
def fnExactWeighSoSpec : ChangeSpec := { name := "fnExactWeighSo", fn := fun _ => fun
  | [d1, d2] => { results := [.lit (.bool true)], args := [d1, d2] }
  | _ => none }
def fnExactWeighSoRow : OpenClaim := { program := "ytknphpgalklclaa", sum := "92f99581444ae959bb2c9a793c1fda691b5e533fba93cff5f591573a788a47de", func := "loop.example/quantifiers/laws.FnExactWeighSo", spec := "fnExactWeighSo", unfollowed := true, recurses := true, plainKeys := false, apart := false }
def FnExactWeighSoSaid : Prop := fnExactWeighSoRow.holds Try.pinned (OpenSpec.ofChange fnExactWeighSoSpec)

/-- ITS FALSE NEIGHBOUR: 'it returns false'. Refute it at one input. -/
def fnExactWeighSoWrong : ChangeSpec := { name := "fnExactWeighSo", fn := fun _ => fun
  | [d1, d2] => { results := [.lit (.bool false)], args := [d1, d2] }
  | _ => none }
def FnExactWeighSoWrongFalsely : Prop := fnExactWeighSoRow.holds Try.pinned (OpenSpec.ofChange fnExactWeighSoWrong)

/-- 'laws.FnContraryOf': WHATEVER THE INPUT: true; the input reads as it did. -/
def fnContraryOfSpec : ChangeSpec := { name := "fnContraryOf", fn := fun _ => fun
  | [d1, d2] => { results := [.lit (.bool true)], args := [d1, d2] }
  | _ => none }
def fnContraryOfRow : OpenClaim := { program := "ytknphpgalklclaa", sum := "92f99581444ae959bb2c9a793c1fda691b5e533fba93cff5f591573a788a47de", func := "loop.example/quantifiers/laws.FnContraryOf", spec := "fnContraryOf", unfollowed := true, recurses := true, plainKeys := false, apart := false }
def FnContraryOfSaid : Prop := fnContraryOfRow.holds Try.pinned (OpenSpec.ofChange fnContraryOfSpec)

/-- ITS FALSE NEIGHBOUR: 'it returns false'. Refute it at one input. -/
def fnContraryOfWrong : ChangeSpec := { name := "fnContraryOf", fn := fun _ => fun
  | [d1, d2] => { results := [.lit (.bool false)], args := [d1, d2] }
  | _ => none }
def FnContraryOfWrongFalsely : Prop := fnContraryOfRow.holds Try.pinned (OpenSpec.ofChange fnContraryOfWrong)

/-- 'laws.FnWeighSo': WHATEVER THE INPUT: true; the input reads as it did. -/
def fnWeighSoSpec : ChangeSpec := { name := "fnWeighSo", fn := fun _ => fun
  | [d] => { results := [.lit (.bool true)], args := [d] }
  | _ => none }
def fnWeighSoRow : OpenClaim := { program := "ytknphpgalklclaa", sum := "92f99581444ae959bb2c9a793c1fda691b5e533fba93cff5f591573a788a47de", func := "loop.example/quantifiers/laws.FnWeighSo", spec := "fnWeighSo", unfollowed := true, recurses := true, plainKeys := false, apart := false }
def FnWeighSoSaid : Prop := fnWeighSoRow.holds Try.pinned (OpenSpec.ofChange fnWeighSoSpec)

/-- ITS FALSE NEIGHBOUR: 'it returns false'. Refute it at one input. -/
def fnWeighSoWrong : ChangeSpec := { name := "fnWeighSo", fn := fun _ => fun
  | [d] => { results := [.lit (.bool false)], args := [d] }
  | _ => none }
def FnWeighSoWrongFalsely : Prop := fnWeighSoRow.holds Try.pinned (OpenSpec.ofChange fnWeighSoWrong)

/-- 'laws.FnCornersOf': WHATEVER THE INPUT: true; the input reads as it did. -/
def fnCornersOfSpec : ChangeSpec := { name := "fnCornersOf", fn := fun _ => fun
  | [d] => { results := [.lit (.bool true)], args := [d] }
  | _ => none }
def fnCornersOfRow : OpenClaim := { program := "ytknphpgalklclaa", sum := "92f99581444ae959bb2c9a793c1fda691b5e533fba93cff5f591573a788a47de", func := "loop.example/quantifiers/laws.FnCornersOf", spec := "fnCornersOf", unfollowed := true, recurses := true, plainKeys := false, apart := false }
def FnCornersOfSaid : Prop := fnCornersOfRow.holds Try.pinned (OpenSpec.ofChange fnCornersOfSpec)

/-- ITS FALSE NEIGHBOUR: 'it returns false'. Refute it at one input. -/
def fnCornersOfWrong : ChangeSpec := { name := "fnCornersOf", fn := fun _ => fun
  | [d] => { results := [.lit (.bool false)], args := [d] }
  | _ => none }
def FnCornersOfWrongFalsely : Prop := fnCornersOfRow.holds Try.pinned (OpenSpec.ofChange fnCornersOfWrong)

/-- 'laws.FnExactCornersOf': WHATEVER THE INPUT: true; the input reads as it did. -/
def fnExactCornersOfSpec : ChangeSpec := { name := "fnExactCornersOf", fn := fun _ => fun
  | [d] => { results := [.lit (.bool true)], args := [d] }
  | _ => none }
def fnExactCornersOfRow : OpenClaim := { program := "ytknphpgalklclaa", sum := "92f99581444ae959bb2c9a793c1fda691b5e533fba93cff5f591573a788a47de", func := "loop.example/quantifiers/laws.FnExactCornersOf", spec := "fnExactCornersOf", unfollowed := true, recurses := true, plainKeys := false, apart := false }
def FnExactCornersOfSaid : Prop := fnExactCornersOfRow.holds Try.pinned (OpenSpec.ofChange fnExactCornersOfSpec)

/-- ITS FALSE NEIGHBOUR: 'it returns false'. Refute it at one input. -/
def fnExactCornersOfWrong : ChangeSpec := { name := "fnExactCornersOf", fn := fun _ => fun
  | [d] => { results := [.lit (.bool false)], args := [d] }
  | _ => none }
def FnExactCornersOfWrongFalsely : Prop := fnExactCornersOfRow.holds Try.pinned (OpenSpec.ofChange fnExactCornersOfWrong)

/-- 'laws.FnExactCountsFor': WHATEVER THE INPUT: true; the input reads as it did. -/
def fnExactCountsForSpec : ChangeSpec := { name := "fnExactCountsFor", fn := fun _ => fun
  | [d] => { results := [.lit (.bool true)], args := [d] }
  | _ => none }
def fnExactCountsForRow : OpenClaim := { program := "ytknphpgalklclaa", sum := "92f99581444ae959bb2c9a793c1fda691b5e533fba93cff5f591573a788a47de", func := "loop.example/quantifiers/laws.FnExactCountsFor", spec := "fnExactCountsFor", unfollowed := true, recurses := true, plainKeys := false, apart := false }
def FnExactCountsForSaid : Prop := fnExactCountsForRow.holds Try.pinned (OpenSpec.ofChange fnExactCountsForSpec)

/-- ITS FALSE NEIGHBOUR: 'it returns false'. Refute it at one input. -/
def fnExactCountsForWrong : ChangeSpec := { name := "fnExactCountsFor", fn := fun _ => fun
  | [d] => { results := [.lit (.bool false)], args := [d] }
  | _ => none }
def FnExactCountsForWrongFalsely : Prop := fnExactCountsForRow.holds Try.pinned (OpenSpec.ofChange fnExactCountsForWrong)

/- THE SECOND FORM. 'bulk': how many values and letters a reading holds, each counted each time it is reached (what is shared counts as often as it is met; a slice's spare places count too). A statement '..UptoSaid' is the law's where the arguments, and the package variables that the reading takes, are together of bulk at most 1048576: NARROWER than '..Said'. Prove '..Said' where nothing that the law and all that it calls make is longer than what came in: it says more and counts as full. Else prove '..UptoSaid'. A law counts once. -/
mutual
def uptoBulk {H : Type} : DataW H → Nat
  | .lit (.string bytes) => bytes.length + 1
  | .lit _ => 1
  | .nil => 1
  | .ptr d => uptoBulk d + 1
  | .slice elems spare => uptoBulkAll elems + uptoBulkAll spare + 1
  | .agg parts => uptoBulkAll parts + 1
  | .iface _ d => uptoBulk d + 1
  | .map entries => uptoBulkEntries entries + 1
  | .held _ => 1
def uptoBulkAll {H : Type} : List (DataW H) → Nat
  | [] => 0
  | d :: r => uptoBulk d + uptoBulkAll r
def uptoBulkEntries {H : Type} : List (Lit × DataW H) → Nat
  | [] => 0
  | x :: r => uptoBulkEntry x + uptoBulkEntries r
def uptoBulkEntry {H : Type} : Lit × DataW H → Nat
  | (.string bytes, d) => bytes.length + uptoBulk d + 1
  | (_, d) => uptoBulk d + 1
 end
def uptoSmall : (H : Type) → List (DataW H) → Bool := fun _ ds => decide (uptoBulkAll ds ≤ 1048576)
def OpenSpec.upto (s : _root_.Go.ChangeSpec) : _root_.Go.OpenSpec := { _root_.Go.OpenSpec.ofChange s with cond := some uptoSmall }

/-- 'laws.FnExactWeighOk', WHERE WHAT IT READS IS OF BULK AT MOST 1048576: true; the input reads as it did. -/
def fnExactWeighOkUptoRow : OpenClaim := { program := "ytknphpgalklclaa", sum := "92f99581444ae959bb2c9a793c1fda691b5e533fba93cff5f591573a788a47de", func := "loop.example/quantifiers/laws.FnExactWeighOk", spec := "fnExactWeighOk", plainKeys := false, apart := false, narrowed := true }
def FnExactWeighOkUptoSaid : Prop := fnExactWeighOkUptoRow.holds Try.pinned (OpenSpec.upto fnExactWeighOkSpec)

/-- 'laws.FnExactCountsOk', WHERE WHAT IT READS IS OF BULK AT MOST 1048576: true; the input reads as it did. -/
def fnExactCountsOkUptoRow : OpenClaim := { program := "ytknphpgalklclaa", sum := "92f99581444ae959bb2c9a793c1fda691b5e533fba93cff5f591573a788a47de", func := "loop.example/quantifiers/laws.FnExactCountsOk", spec := "fnExactCountsOk", unfollowed := true, recurses := true, plainKeys := false, apart := false, narrowed := true }
def FnExactCountsOkUptoSaid : Prop := fnExactCountsOkUptoRow.holds Try.pinned (OpenSpec.upto fnExactCountsOkSpec)

/-- 'laws.FnExactWeighFollows', WHERE WHAT IT READS IS OF BULK AT MOST 1048576: true; the input reads as it did. -/
def fnExactWeighFollowsUptoRow : OpenClaim := { program := "ytknphpgalklclaa", sum := "92f99581444ae959bb2c9a793c1fda691b5e533fba93cff5f591573a788a47de", func := "loop.example/quantifiers/laws.FnExactWeighFollows", spec := "fnExactWeighFollows", unfollowed := true, recurses := true, plainKeys := false, apart := false, narrowed := true }
def FnExactWeighFollowsUptoSaid : Prop := fnExactWeighFollowsUptoRow.holds Try.pinned (OpenSpec.upto fnExactWeighFollowsSpec)

/-- 'laws.FnWeighOk', WHERE WHAT IT READS IS OF BULK AT MOST 1048576: true; the input reads as it did. -/
def fnWeighOkUptoRow : OpenClaim := { program := "ytknphpgalklclaa", sum := "92f99581444ae959bb2c9a793c1fda691b5e533fba93cff5f591573a788a47de", func := "loop.example/quantifiers/laws.FnWeighOk", spec := "fnWeighOk", plainKeys := false, apart := false, narrowed := true }
def FnWeighOkUptoSaid : Prop := fnWeighOkUptoRow.holds Try.pinned (OpenSpec.upto fnWeighOkSpec)

/-- 'laws.FnExactContraryOf', WHERE WHAT IT READS IS OF BULK AT MOST 1048576: true; the input reads as it did. -/
def fnExactContraryOfUptoRow : OpenClaim := { program := "ytknphpgalklclaa", sum := "92f99581444ae959bb2c9a793c1fda691b5e533fba93cff5f591573a788a47de", func := "loop.example/quantifiers/laws.FnExactContraryOf", spec := "fnExactContraryOf", plainKeys := false, apart := false, narrowed := true }
def FnExactContraryOfUptoSaid : Prop := fnExactContraryOfUptoRow.holds Try.pinned (OpenSpec.upto fnExactContraryOfSpec)

/-- 'laws.FnCountsOk', WHERE WHAT IT READS IS OF BULK AT MOST 1048576: true; the input reads as it did. -/
def fnCountsOkUptoRow : OpenClaim := { program := "ytknphpgalklclaa", sum := "92f99581444ae959bb2c9a793c1fda691b5e533fba93cff5f591573a788a47de", func := "loop.example/quantifiers/laws.FnCountsOk", spec := "fnCountsOk", unfollowed := true, recurses := true, plainKeys := false, apart := false, narrowed := true }
def FnCountsOkUptoSaid : Prop := fnCountsOkUptoRow.holds Try.pinned (OpenSpec.upto fnCountsOkSpec)

/-- 'laws.FnCountsFor', WHERE WHAT IT READS IS OF BULK AT MOST 1048576: true; the input reads as it did. -/
def fnCountsForUptoRow : OpenClaim := { program := "ytknphpgalklclaa", sum := "92f99581444ae959bb2c9a793c1fda691b5e533fba93cff5f591573a788a47de", func := "loop.example/quantifiers/laws.FnCountsFor", spec := "fnCountsFor", unfollowed := true, recurses := true, plainKeys := false, apart := false, narrowed := true }
def FnCountsForUptoSaid : Prop := fnCountsForUptoRow.holds Try.pinned (OpenSpec.upto fnCountsForSpec)

/-- 'laws.FnWeighFollows', WHERE WHAT IT READS IS OF BULK AT MOST 1048576: true; the input reads as it did. -/
def fnWeighFollowsUptoRow : OpenClaim := { program := "ytknphpgalklclaa", sum := "92f99581444ae959bb2c9a793c1fda691b5e533fba93cff5f591573a788a47de", func := "loop.example/quantifiers/laws.FnWeighFollows", spec := "fnWeighFollows", unfollowed := true, recurses := true, plainKeys := false, apart := false, narrowed := true }
def FnWeighFollowsUptoSaid : Prop := fnWeighFollowsUptoRow.holds Try.pinned (OpenSpec.upto fnWeighFollowsSpec)

/-- 'laws.FnExactWeighSo', WHERE WHAT IT READS IS OF BULK AT MOST 1048576: true; the input reads as it did. -/
def fnExactWeighSoUptoRow : OpenClaim := { program := "ytknphpgalklclaa", sum := "92f99581444ae959bb2c9a793c1fda691b5e533fba93cff5f591573a788a47de", func := "loop.example/quantifiers/laws.FnExactWeighSo", spec := "fnExactWeighSo", unfollowed := true, recurses := true, plainKeys := false, apart := false, narrowed := true }
def FnExactWeighSoUptoSaid : Prop := fnExactWeighSoUptoRow.holds Try.pinned (OpenSpec.upto fnExactWeighSoSpec)

/-- 'laws.FnContraryOf', WHERE WHAT IT READS IS OF BULK AT MOST 1048576: true; the input reads as it did. -/
def fnContraryOfUptoRow : OpenClaim := { program := "ytknphpgalklclaa", sum := "92f99581444ae959bb2c9a793c1fda691b5e533fba93cff5f591573a788a47de", func := "loop.example/quantifiers/laws.FnContraryOf", spec := "fnContraryOf", unfollowed := true, recurses := true, plainKeys := false, apart := false, narrowed := true }
def FnContraryOfUptoSaid : Prop := fnContraryOfUptoRow.holds Try.pinned (OpenSpec.upto fnContraryOfSpec)

/-- 'laws.FnWeighSo', WHERE WHAT IT READS IS OF BULK AT MOST 1048576: true; the input reads as it did. -/
def fnWeighSoUptoRow : OpenClaim := { program := "ytknphpgalklclaa", sum := "92f99581444ae959bb2c9a793c1fda691b5e533fba93cff5f591573a788a47de", func := "loop.example/quantifiers/laws.FnWeighSo", spec := "fnWeighSo", unfollowed := true, recurses := true, plainKeys := false, apart := false, narrowed := true }
def FnWeighSoUptoSaid : Prop := fnWeighSoUptoRow.holds Try.pinned (OpenSpec.upto fnWeighSoSpec)

/-- 'laws.FnCornersOf', WHERE WHAT IT READS IS OF BULK AT MOST 1048576: true; the input reads as it did. -/
def fnCornersOfUptoRow : OpenClaim := { program := "ytknphpgalklclaa", sum := "92f99581444ae959bb2c9a793c1fda691b5e533fba93cff5f591573a788a47de", func := "loop.example/quantifiers/laws.FnCornersOf", spec := "fnCornersOf", unfollowed := true, recurses := true, plainKeys := false, apart := false, narrowed := true }
def FnCornersOfUptoSaid : Prop := fnCornersOfUptoRow.holds Try.pinned (OpenSpec.upto fnCornersOfSpec)

/-- 'laws.FnExactCornersOf', WHERE WHAT IT READS IS OF BULK AT MOST 1048576: true; the input reads as it did. -/
def fnExactCornersOfUptoRow : OpenClaim := { program := "ytknphpgalklclaa", sum := "92f99581444ae959bb2c9a793c1fda691b5e533fba93cff5f591573a788a47de", func := "loop.example/quantifiers/laws.FnExactCornersOf", spec := "fnExactCornersOf", unfollowed := true, recurses := true, plainKeys := false, apart := false, narrowed := true }
def FnExactCornersOfUptoSaid : Prop := fnExactCornersOfUptoRow.holds Try.pinned (OpenSpec.upto fnExactCornersOfSpec)

/-- 'laws.FnExactCountsFor', WHERE WHAT IT READS IS OF BULK AT MOST 1048576: true; the input reads as it did. -/
def fnExactCountsForUptoRow : OpenClaim := { program := "ytknphpgalklclaa", sum := "92f99581444ae959bb2c9a793c1fda691b5e533fba93cff5f591573a788a47de", func := "loop.example/quantifiers/laws.FnExactCountsFor", spec := "fnExactCountsFor", unfollowed := true, recurses := true, plainKeys := false, apart := false, narrowed := true }
def FnExactCountsForUptoSaid : Prop := fnExactCountsForUptoRow.holds Try.pinned (OpenSpec.upto fnExactCountsForSpec)

end Rows
end Go.Proofs.Ytknphpgalklclaa
