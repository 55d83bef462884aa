/-
  No cell of these rows narrows 'for every input' (looked for: loops, veiled, ifaces, maps, wideKeys, modest, calm, conditions, laid).
  DERIVED. THE GIVEN ROWS OF THIS SEAT. 5 by the template 'for every input the law returns true; each argument reads behind the call as it read before'; 0 by the template 'total and deterministic' (their statements: YtmbninbecclbiaaTotals.lean).
  GIVEN WITH THE SEED: the statements are not yours to turn. If you find one false, say at which input.
  Laid BY PROGRAM, IN A SANDBOX (cutbox-rows.mjs): the forced cells as the released guide's own fill.sh prints them over the translation 31a09cb1ce062861… (all of the seat's roots in one cut). By AI agents, Wed Nov 11 2026. No macro, syntax, notation, axiom, sorry.
-/
import Derived.Test.YtmbninbecclbiaaChecked
import GoSem.Claim
import GoSem.ClaimJoined
import GoSem.ClaimMapViews
import Derived.JoinedTies
import Derived.KernelRfl
namespace Go.Proofs.Ytmbninbecclbiaa
/- THE CELL 'sum', in the pinned program and in every row, IS THE sha256 OF THE DUMP (.gsa) THAT YtmbninbecclbiaaProg.lean LOADS. Nothing in Lean hashes anything: it is a label: what it is worth is what the hold of that sum in a sandbox is worth. -/
noncomputable def Try.pinned : Pinned := { name := "ytmbninbecclbiaa", sum := "31a09cb1ce0628619a882923ae105465ff0c4137e3e26430972e9607779ef131", checked := Try.checked }
namespace Rows
def none {H : Type} : Left H := { results := [], args := [] }

/-- 'laws.FnExactWeighFollows': WHATEVER THE INPUT: true; the input reads as it did. -/
def fnExactWeighFollowsSpec : ChangeSpec := { name := "fnExactWeighFollows", fn := fun _ => fun
  | [d1, d2] => { results := [.lit (.bool true)], args := [d1, d2] }
  | _ => none }
def fnExactWeighFollowsRow : OpenClaim := { program := "ytmbninbecclbiaa", sum := "31a09cb1ce0628619a882923ae105465ff0c4137e3e26430972e9607779ef131", func := "loop.example/quantifiers/laws.FnExactWeighFollows", spec := "fnExactWeighFollows", unfollowed := true, recurses := true, apart := false }
def FnExactWeighFollowsSaid : Prop := fnExactWeighFollowsRow.holds Try.pinned (OpenSpec.ofChange fnExactWeighFollowsSpec)

/-- ITS FALSE NEIGHBOUR: 'it returns false'. Refute it at one input. -/
def fnExactWeighFollowsWrong : ChangeSpec := { name := "fnExactWeighFollows", fn := fun _ => fun
  | [d1, d2] => { results := [.lit (.bool false)], args := [d1, d2] }
  | _ => none }
def FnExactWeighFollowsWrongFalsely : Prop := fnExactWeighFollowsRow.holds Try.pinned (OpenSpec.ofChange fnExactWeighFollowsWrong)

/-- 'laws.FnCountsFor': WHATEVER THE INPUT: true; the input reads as it did. -/
def fnCountsForSpec : ChangeSpec := { name := "fnCountsFor", fn := fun _ => fun
  | [d1, d2] => { results := [.lit (.bool true)], args := [d1, d2] }
  | _ => none }
def fnCountsForRow : OpenClaim := { program := "ytmbninbecclbiaa", sum := "31a09cb1ce0628619a882923ae105465ff0c4137e3e26430972e9607779ef131", func := "loop.example/quantifiers/laws.FnCountsFor", spec := "fnCountsFor", unfollowed := true, recurses := true, apart := false }
def FnCountsForSaid : Prop := fnCountsForRow.holds Try.pinned (OpenSpec.ofChange fnCountsForSpec)

/-- ITS FALSE NEIGHBOUR: 'it returns false'. Refute it at one input. -/
def fnCountsForWrong : ChangeSpec := { name := "fnCountsFor", fn := fun _ => fun
  | [d1, d2] => { results := [.lit (.bool false)], args := [d1, d2] }
  | _ => none }
def FnCountsForWrongFalsely : Prop := fnCountsForRow.holds Try.pinned (OpenSpec.ofChange fnCountsForWrong)

/-- 'laws.FnCornersOf': WHATEVER THE INPUT: true; the input reads as it did. -/
def fnCornersOfSpec : ChangeSpec := { name := "fnCornersOf", fn := fun _ => fun
  | [d] => { results := [.lit (.bool true)], args := [d] }
  | _ => none }
def fnCornersOfRow : OpenClaim := { program := "ytmbninbecclbiaa", sum := "31a09cb1ce0628619a882923ae105465ff0c4137e3e26430972e9607779ef131", func := "loop.example/quantifiers/laws.FnCornersOf", spec := "fnCornersOf", unfollowed := true, recurses := true, apart := false }
def FnCornersOfSaid : Prop := fnCornersOfRow.holds Try.pinned (OpenSpec.ofChange fnCornersOfSpec)

/-- ITS FALSE NEIGHBOUR: 'it returns false'. Refute it at one input. -/
def fnCornersOfWrong : ChangeSpec := { name := "fnCornersOf", fn := fun _ => fun
  | [d] => { results := [.lit (.bool false)], args := [d] }
  | _ => none }
def FnCornersOfWrongFalsely : Prop := fnCornersOfRow.holds Try.pinned (OpenSpec.ofChange fnCornersOfWrong)

/-- 'laws.FnExactCornersOf': WHATEVER THE INPUT: true; the input reads as it did. -/
def fnExactCornersOfSpec : ChangeSpec := { name := "fnExactCornersOf", fn := fun _ => fun
  | [d] => { results := [.lit (.bool true)], args := [d] }
  | _ => none }
def fnExactCornersOfRow : OpenClaim := { program := "ytmbninbecclbiaa", sum := "31a09cb1ce0628619a882923ae105465ff0c4137e3e26430972e9607779ef131", func := "loop.example/quantifiers/laws.FnExactCornersOf", spec := "fnExactCornersOf", unfollowed := true, recurses := true, apart := false }
def FnExactCornersOfSaid : Prop := fnExactCornersOfRow.holds Try.pinned (OpenSpec.ofChange fnExactCornersOfSpec)

/-- ITS FALSE NEIGHBOUR: 'it returns false'. Refute it at one input. -/
def fnExactCornersOfWrong : ChangeSpec := { name := "fnExactCornersOf", fn := fun _ => fun
  | [d] => { results := [.lit (.bool false)], args := [d] }
  | _ => none }
def FnExactCornersOfWrongFalsely : Prop := fnExactCornersOfRow.holds Try.pinned (OpenSpec.ofChange fnExactCornersOfWrong)

/-- 'laws.FnExactCountsFor': WHATEVER THE INPUT: true; the input reads as it did. -/
def fnExactCountsForSpec : ChangeSpec := { name := "fnExactCountsFor", fn := fun _ => fun
  | [d] => { results := [.lit (.bool true)], args := [d] }
  | _ => none }
def fnExactCountsForRow : OpenClaim := { program := "ytmbninbecclbiaa", sum := "31a09cb1ce0628619a882923ae105465ff0c4137e3e26430972e9607779ef131", func := "loop.example/quantifiers/laws.FnExactCountsFor", spec := "fnExactCountsFor", unfollowed := true, recurses := true, apart := false }
def FnExactCountsForSaid : Prop := fnExactCountsForRow.holds Try.pinned (OpenSpec.ofChange fnExactCountsForSpec)

/-- ITS FALSE NEIGHBOUR: 'it returns false'. Refute it at one input. -/
def fnExactCountsForWrong : ChangeSpec := { name := "fnExactCountsFor", fn := fun _ => fun
  | [d] => { results := [.lit (.bool false)], args := [d] }
  | _ => none }
def FnExactCountsForWrongFalsely : Prop := fnExactCountsForRow.holds Try.pinned (OpenSpec.ofChange fnExactCountsForWrong)

/- THE SECOND FORM. 'bulk': how many values and letters a reading holds, each counted each time it is reached (what is shared counts as often as it is met; a slice's spare places count too). A statement '..UptoSaid' is the law's where the arguments, and the package variables that the reading takes, are together of bulk at most 1048576: NARROWER than '..Said'. Prove '..Said' where nothing that the law and all that it calls make is longer than what came in: it says more and counts as full. Else prove '..UptoSaid'. A law counts once. -/
mutual
def uptoBulk {H : Type} : DataW H → Nat
  | .lit (.string bytes) => bytes.length + 1
  | .lit _ => 1
  | .nil => 1
  | .ptr d => uptoBulk d + 1
  | .slice elems spare => uptoBulkAll elems + uptoBulkAll spare + 1
  | .agg parts => uptoBulkAll parts + 1
  | .iface _ d => uptoBulk d + 1
  | .map entries => uptoBulkEntries entries + 1
  | .held _ => 1
def uptoBulkAll {H : Type} : List (DataW H) → Nat
  | [] => 0
  | d :: r => uptoBulk d + uptoBulkAll r
def uptoBulkEntries {H : Type} : List (Lit × DataW H) → Nat
  | [] => 0
  | x :: r => uptoBulkEntry x + uptoBulkEntries r
def uptoBulkEntry {H : Type} : Lit × DataW H → Nat
  | (.string bytes, d) => bytes.length + uptoBulk d + 1
  | (_, d) => uptoBulk d + 1
 end
def uptoSmall : (H : Type) → List (DataW H) → Bool := fun _ ds => decide (uptoBulkAll ds ≤ 1048576)
def OpenSpec.upto (s : _root_.Go.ChangeSpec) : _root_.Go.OpenSpec := { _root_.Go.OpenSpec.ofChange s with cond := some uptoSmall }

/-- 'laws.FnExactWeighFollows', WHERE WHAT IT READS IS OF BULK AT MOST 1048576: true; the input reads as it did. -/
def fnExactWeighFollowsUptoRow : OpenClaim := { program := "ytmbninbecclbiaa", sum := "31a09cb1ce0628619a882923ae105465ff0c4137e3e26430972e9607779ef131", func := "loop.example/quantifiers/laws.FnExactWeighFollows", spec := "fnExactWeighFollows", unfollowed := true, recurses := true, apart := false, narrowed := true }
def FnExactWeighFollowsUptoSaid : Prop := fnExactWeighFollowsUptoRow.holds Try.pinned (OpenSpec.upto fnExactWeighFollowsSpec)

/-- 'laws.FnCountsFor', WHERE WHAT IT READS IS OF BULK AT MOST 1048576: true; the input reads as it did. -/
def fnCountsForUptoRow : OpenClaim := { program := "ytmbninbecclbiaa", sum := "31a09cb1ce0628619a882923ae105465ff0c4137e3e26430972e9607779ef131", func := "loop.example/quantifiers/laws.FnCountsFor", spec := "fnCountsFor", unfollowed := true, recurses := true, apart := false, narrowed := true }
def FnCountsForUptoSaid : Prop := fnCountsForUptoRow.holds Try.pinned (OpenSpec.upto fnCountsForSpec)

/-- 'laws.FnCornersOf', WHERE WHAT IT READS IS OF BULK AT MOST 1048576: true; the input reads as it did. -/
def fnCornersOfUptoRow : OpenClaim := { program := "ytmbninbecclbiaa", sum := "31a09cb1ce0628619a882923ae105465ff0c4137e3e26430972e9607779ef131", func := "loop.example/quantifiers/laws.FnCornersOf", spec := "fnCornersOf", unfollowed := true, recurses := true, apart := false, narrowed := true }
def FnCornersOfUptoSaid : Prop := fnCornersOfUptoRow.holds Try.pinned (OpenSpec.upto fnCornersOfSpec)

/-- 'laws.FnExactCornersOf', WHERE WHAT IT READS IS OF BULK AT MOST 1048576: true; the input reads as it did. -/
def fnExactCornersOfUptoRow : OpenClaim := { program := "ytmbninbecclbiaa", sum := "31a09cb1ce0628619a882923ae105465ff0c4137e3e26430972e9607779ef131", func := "loop.example/quantifiers/laws.FnExactCornersOf", spec := "fnExactCornersOf", unfollowed := true, recurses := true, apart := false, narrowed := true }
def FnExactCornersOfUptoSaid : Prop := fnExactCornersOfUptoRow.holds Try.pinned (OpenSpec.upto fnExactCornersOfSpec)

/-- 'laws.FnExactCountsFor', WHERE WHAT IT READS IS OF BULK AT MOST 1048576: true; the input reads as it did. -/
def fnExactCountsForUptoRow : OpenClaim := { program := "ytmbninbecclbiaa", sum := "31a09cb1ce0628619a882923ae105465ff0c4137e3e26430972e9607779ef131", func := "loop.example/quantifiers/laws.FnExactCountsFor", spec := "fnExactCountsFor", unfollowed := true, recurses := true, apart := false, narrowed := true }
def FnExactCountsForUptoSaid : Prop := fnExactCountsForUptoRow.holds Try.pinned (OpenSpec.upto fnExactCountsForSpec)

end Rows
end Go.Proofs.Ytmbninbecclbiaa
