/-
  No cell of these rows narrows 'for every input' (looked for: loops, veiled, ifaces, maps, wideKeys, modest, calm, conditions, laid).
  DERIVED. THE GIVEN ROWS OF THIS SEAT. 5 by the template 'for every input the law returns true; each argument reads behind the call as it read before'; 0 by the template 'total and deterministic' (their statements: YthnmllkhlinnaaaTotals.lean).
  GIVEN WITH THE SEED: the statements are not yours to turn. If you find one false, say at which input.
  Laid BY PROGRAM, IN A SANDBOX (cutbox-rows.mjs): the forced cells as the released guide's own fill.sh prints them over the translation ce48a1095930bed0… (all of the seat's roots in one cut). By AI agents, Wed Nov 11 2026. No macro, syntax, notation, axiom, sorry.
-/
import Derived.Test.YthnmllkhlinnaaaChecked
import GoSem.Claim
import GoSem.ClaimJoined
import GoSem.ClaimMapViews
import Derived.JoinedTies
import Derived.KernelRfl
namespace Go.Proofs.Ythnmllkhlinnaaa
/- THE CELL 'sum', in the pinned program and in every row, IS THE sha256 OF THE DUMP (.gsa) THAT YthnmllkhlinnaaaProg.lean LOADS. Nothing in Lean hashes anything: it is a label: what it is worth is what the hold of that sum in a sandbox is worth. -/
noncomputable def Try.pinned : Pinned := { name := "ythnmllkhlinnaaa", sum := "ce48a1095930bed0a3e00f95e350c6deb92f8682f2835f7df35974a79b61250f", checked := Try.checked }
namespace Rows
def none {H : Type} : Left H := { results := [], args := [] }

/-- 'laws.FnExactProved': WHATEVER THE INPUT: true; the input reads as it did. -/
def fnExactProvedSpec : ChangeSpec := { name := "fnExactProved", fn := fun _ => fun
  | [d1, d2, d3] => { results := [.lit (.bool true)], args := [d1, d2, d3] }
  | _ => none }
def fnExactProvedRow : OpenClaim := { program := "ythnmllkhlinnaaa", sum := "ce48a1095930bed0a3e00f95e350c6deb92f8682f2835f7df35974a79b61250f", func := "loop.example/quantifiers/laws.FnExactProved", spec := "fnExactProved", unfollowed := true, recurses := true, plainKeys := false, apart := false }
def FnExactProvedSaid : Prop := fnExactProvedRow.holds Try.pinned (OpenSpec.ofChange fnExactProvedSpec)

/-- ITS FALSE NEIGHBOUR: 'it returns false'. Refute it at one input. -/
def fnExactProvedWrong : ChangeSpec := { name := "fnExactProved", fn := fun _ => fun
  | [d1, d2, d3] => { results := [.lit (.bool false)], args := [d1, d2, d3] }
  | _ => none }
def FnExactProvedWrongFalsely : Prop := fnExactProvedRow.holds Try.pinned (OpenSpec.ofChange fnExactProvedWrong)

/-- 'laws.FnExactProvedMany': WHATEVER THE INPUT: true; the input reads as it did. -/
def fnExactProvedManySpec : ChangeSpec := { name := "fnExactProvedMany", fn := fun _ => fun
  | [d1, d2] => { results := [.lit (.bool true)], args := [d1, d2] }
  | _ => none }
def fnExactProvedManyRow : OpenClaim := { program := "ythnmllkhlinnaaa", sum := "ce48a1095930bed0a3e00f95e350c6deb92f8682f2835f7df35974a79b61250f", func := "loop.example/quantifiers/laws.FnExactProvedMany", spec := "fnExactProvedMany", unfollowed := true, recurses := true, plainKeys := false, apart := false }
def FnExactProvedManySaid : Prop := fnExactProvedManyRow.holds Try.pinned (OpenSpec.ofChange fnExactProvedManySpec)

/-- ITS FALSE NEIGHBOUR: 'it returns false'. Refute it at one input. -/
def fnExactProvedManyWrong : ChangeSpec := { name := "fnExactProvedMany", fn := fun _ => fun
  | [d1, d2] => { results := [.lit (.bool false)], args := [d1, d2] }
  | _ => none }
def FnExactProvedManyWrongFalsely : Prop := fnExactProvedManyRow.holds Try.pinned (OpenSpec.ofChange fnExactProvedManyWrong)

/-- 'laws.FnWorldWithout': WHATEVER THE INPUT: true; the input reads as it did. -/
def fnWorldWithoutSpec : ChangeSpec := { name := "fnWorldWithout", fn := fun _ => fun
  | [d] => { results := [.lit (.bool true)], args := [d] }
  | _ => none }
def fnWorldWithoutRow : OpenClaim := { program := "ythnmllkhlinnaaa", sum := "ce48a1095930bed0a3e00f95e350c6deb92f8682f2835f7df35974a79b61250f", func := "loop.example/quantifiers/laws.FnWorldWithout", spec := "fnWorldWithout", unfollowed := true, recurses := true, plainKeys := false, apart := false }
def FnWorldWithoutSaid : Prop := fnWorldWithoutRow.holds Try.pinned (OpenSpec.ofChange fnWorldWithoutSpec)

/-- ITS FALSE NEIGHBOUR: 'it returns false'. Refute it at one input. -/
def fnWorldWithoutWrong : ChangeSpec := { name := "fnWorldWithout", fn := fun _ => fun
  | [d] => { results := [.lit (.bool false)], args := [d] }
  | _ => none }
def FnWorldWithoutWrongFalsely : Prop := fnWorldWithoutRow.holds Try.pinned (OpenSpec.ofChange fnWorldWithoutWrong)

/-- 'laws.FnProvedMany': WHATEVER THE INPUT: true; the input reads as it did. -/
def fnProvedManySpec : ChangeSpec := { name := "fnProvedMany", fn := fun _ => fun
  | [d] => { results := [.lit (.bool true)], args := [d] }
  | _ => none }
def fnProvedManyRow : OpenClaim := { program := "ythnmllkhlinnaaa", sum := "ce48a1095930bed0a3e00f95e350c6deb92f8682f2835f7df35974a79b61250f", func := "loop.example/quantifiers/laws.FnProvedMany", spec := "fnProvedMany", unfollowed := true, recurses := true, plainKeys := false, apart := false }
def FnProvedManySaid : Prop := fnProvedManyRow.holds Try.pinned (OpenSpec.ofChange fnProvedManySpec)

/-- ITS FALSE NEIGHBOUR: 'it returns false'. Refute it at one input. -/
def fnProvedManyWrong : ChangeSpec := { name := "fnProvedMany", fn := fun _ => fun
  | [d] => { results := [.lit (.bool false)], args := [d] }
  | _ => none }
def FnProvedManyWrongFalsely : Prop := fnProvedManyRow.holds Try.pinned (OpenSpec.ofChange fnProvedManyWrong)

/-- 'laws.FnProved': WHATEVER THE INPUT: true; the input reads as it did. -/
def fnProvedSpec : ChangeSpec := { name := "fnProved", fn := fun _ => fun
  | [d] => { results := [.lit (.bool true)], args := [d] }
  | _ => none }
def fnProvedRow : OpenClaim := { program := "ythnmllkhlinnaaa", sum := "ce48a1095930bed0a3e00f95e350c6deb92f8682f2835f7df35974a79b61250f", func := "loop.example/quantifiers/laws.FnProved", spec := "fnProved", unfollowed := true, recurses := true, plainKeys := false, apart := false }
def FnProvedSaid : Prop := fnProvedRow.holds Try.pinned (OpenSpec.ofChange fnProvedSpec)

/-- ITS FALSE NEIGHBOUR: 'it returns false'. Refute it at one input. -/
def fnProvedWrong : ChangeSpec := { name := "fnProved", fn := fun _ => fun
  | [d] => { results := [.lit (.bool false)], args := [d] }
  | _ => none }
def FnProvedWrongFalsely : Prop := fnProvedRow.holds Try.pinned (OpenSpec.ofChange fnProvedWrong)

/- THE SECOND FORM. 'bulk': how many values and letters a reading holds, each counted each time it is reached (what is shared counts as often as it is met; a slice's spare places count too). A statement '..UptoSaid' is the law's where the arguments, and the package variables that the reading takes, are together of bulk at most 1048576: NARROWER than '..Said'. Prove '..Said' where nothing that the law and all that it calls make is longer than what came in: it says more and counts as full. Else prove '..UptoSaid'. A law counts once. -/
mutual
def uptoBulk {H : Type} : DataW H → Nat
  | .lit (.string bytes) => bytes.length + 1
  | .lit _ => 1
  | .nil => 1
  | .ptr d => uptoBulk d + 1
  | .slice elems spare => uptoBulkAll elems + uptoBulkAll spare + 1
  | .agg parts => uptoBulkAll parts + 1
  | .iface _ d => uptoBulk d + 1
  | .map entries => uptoBulkEntries entries + 1
  | .held _ => 1
def uptoBulkAll {H : Type} : List (DataW H) → Nat
  | [] => 0
  | d :: r => uptoBulk d + uptoBulkAll r
def uptoBulkEntries {H : Type} : List (Lit × DataW H) → Nat
  | [] => 0
  | x :: r => uptoBulkEntry x + uptoBulkEntries r
def uptoBulkEntry {H : Type} : Lit × DataW H → Nat
  | (.string bytes, d) => bytes.length + uptoBulk d + 1
  | (_, d) => uptoBulk d + 1
 end
def uptoSmall : (H : Type) → List (DataW H) → Bool := fun _ ds => decide (uptoBulkAll ds ≤ 1048576)
def OpenSpec.upto (s : _root_.Go.ChangeSpec) : _root_.Go.OpenSpec := { _root_.Go.OpenSpec.ofChange s with cond := some uptoSmall }

/-- 'laws.FnExactProved', WHERE WHAT IT READS IS OF BULK AT MOST 1048576: true; the input reads as it did. -/
def fnExactProvedUptoRow : OpenClaim := { program := "ythnmllkhlinnaaa", sum := "ce48a1095930bed0a3e00f95e350c6deb92f8682f2835f7df35974a79b61250f", func := "loop.example/quantifiers/laws.FnExactProved", spec := "fnExactProved", unfollowed := true, recurses := true, plainKeys := false, apart := false, narrowed := true }
def FnExactProvedUptoSaid : Prop := fnExactProvedUptoRow.holds Try.pinned (OpenSpec.upto fnExactProvedSpec)

/-- 'laws.FnExactProvedMany', WHERE WHAT IT READS IS OF BULK AT MOST 1048576: true; the input reads as it did. -/
def fnExactProvedManyUptoRow : OpenClaim := { program := "ythnmllkhlinnaaa", sum := "ce48a1095930bed0a3e00f95e350c6deb92f8682f2835f7df35974a79b61250f", func := "loop.example/quantifiers/laws.FnExactProvedMany", spec := "fnExactProvedMany", unfollowed := true, recurses := true, plainKeys := false, apart := false, narrowed := true }
def FnExactProvedManyUptoSaid : Prop := fnExactProvedManyUptoRow.holds Try.pinned (OpenSpec.upto fnExactProvedManySpec)

/-- 'laws.FnWorldWithout', WHERE WHAT IT READS IS OF BULK AT MOST 1048576: true; the input reads as it did. -/
def fnWorldWithoutUptoRow : OpenClaim := { program := "ythnmllkhlinnaaa", sum := "ce48a1095930bed0a3e00f95e350c6deb92f8682f2835f7df35974a79b61250f", func := "loop.example/quantifiers/laws.FnWorldWithout", spec := "fnWorldWithout", unfollowed := true, recurses := true, plainKeys := false, apart := false, narrowed := true }
def FnWorldWithoutUptoSaid : Prop := fnWorldWithoutUptoRow.holds Try.pinned (OpenSpec.upto fnWorldWithoutSpec)

/-- 'laws.FnProvedMany', WHERE WHAT IT READS IS OF BULK AT MOST 1048576: true; the input reads as it did. -/
def fnProvedManyUptoRow : OpenClaim := { program := "ythnmllkhlinnaaa", sum := "ce48a1095930bed0a3e00f95e350c6deb92f8682f2835f7df35974a79b61250f", func := "loop.example/quantifiers/laws.FnProvedMany", spec := "fnProvedMany", unfollowed := true, recurses := true, plainKeys := false, apart := false, narrowed := true }
def FnProvedManyUptoSaid : Prop := fnProvedManyUptoRow.holds Try.pinned (OpenSpec.upto fnProvedManySpec)

/-- 'laws.FnProved', WHERE WHAT IT READS IS OF BULK AT MOST 1048576: true; the input reads as it did. -/
def fnProvedUptoRow : OpenClaim := { program := "ythnmllkhlinnaaa", sum := "ce48a1095930bed0a3e00f95e350c6deb92f8682f2835f7df35974a79b61250f", func := "loop.example/quantifiers/laws.FnProved", spec := "fnProved", unfollowed := true, recurses := true, plainKeys := false, apart := false, narrowed := true }
def FnProvedUptoSaid : Prop := fnProvedUptoRow.holds Try.pinned (OpenSpec.upto fnProvedSpec)

end Rows
end Go.Proofs.Ythnmllkhlinnaaa
