/-
  No cell of these rows narrows 'for every input' (looked for: loops, veiled, ifaces, maps, wideKeys, modest, calm, conditions, laid).
  DERIVED. THE GIVEN ROWS OF THIS SEAT. 16 by the template 'for every input the law returns true; each argument reads behind the call as it read before'; 0 by the template 'total and deterministic' (their statements: YtainbbpmaengjaaTotals.lean).
  GIVEN WITH THE SEED: the statements are not yours to turn. If you find one false, say at which input.
  Laid BY PROGRAM, IN A SANDBOX (cutbox-rows.mjs): the forced cells as the released guide's own fill.sh prints them over the translation db40a23b74194609… (all of the seat's roots in one cut). By AI agents, Wed Nov 11 2026. No macro, syntax, notation, axiom, sorry.
-/
import Derived.Test.YtainbbpmaengjaaChecked
import GoSem.Claim
import GoSem.ClaimJoined
import GoSem.ClaimMapViews
import Derived.JoinedTies
import Derived.KernelRfl
namespace Go.Proofs.Ytainbbpmaengjaa
/- THE CELL 'sum', in the pinned program and in every row, IS THE sha256 OF THE DUMP (.gsa) THAT YtainbbpmaengjaaProg.lean LOADS. Nothing in Lean hashes anything: it is a label: what it is worth is what the hold of that sum in a sandbox is worth. -/
noncomputable def Try.pinned : Pinned := { name := "ytainbbpmaengjaa", sum := "db40a23b741946093406a1c226b6df88752e23d8a2b060b628fb6115aaae1e35", checked := Try.checked }
namespace Rows
def none {H : Type} : Left H := { results := [], args := [] }

/-- 'laws.FnExactSayOk': WHATEVER THE INPUT: true; the input reads as it did. -/
def fnExactSayOkSpec : ChangeSpec := { name := "fnExactSayOk", fn := fun _ => fun
  | [d1, d2] => { results := [.lit (.bool true)], args := [d1, d2] }
  | _ => none }
def fnExactSayOkRow : OpenClaim := { program := "ytainbbpmaengjaa", sum := "db40a23b741946093406a1c226b6df88752e23d8a2b060b628fb6115aaae1e35", func := "loop.example/quantifiers/laws.FnExactSayOk", spec := "fnExactSayOk", plainKeys := false, apart := false }
def FnExactSayOkSaid : Prop := fnExactSayOkRow.holds Try.pinned (OpenSpec.ofChange fnExactSayOkSpec)

/-- ITS FALSE NEIGHBOUR: 'it returns false'. Refute it at one input. -/
def fnExactSayOkWrong : ChangeSpec := { name := "fnExactSayOk", fn := fun _ => fun
  | [d1, d2] => { results := [.lit (.bool false)], args := [d1, d2] }
  | _ => none }
def FnExactSayOkWrongFalsely : Prop := fnExactSayOkRow.holds Try.pinned (OpenSpec.ofChange fnExactSayOkWrong)

/-- 'laws.FnExactSayText': WHATEVER THE INPUT: true; the input reads as it did. -/
def fnExactSayTextSpec : ChangeSpec := { name := "fnExactSayText", fn := fun _ => fun
  | [d1, d2] => { results := [.lit (.bool true)], args := [d1, d2] }
  | _ => none }
def fnExactSayTextRow : OpenClaim := { program := "ytainbbpmaengjaa", sum := "db40a23b741946093406a1c226b6df88752e23d8a2b060b628fb6115aaae1e35", func := "loop.example/quantifiers/laws.FnExactSayText", spec := "fnExactSayText", plainKeys := false, apart := false }
def FnExactSayTextSaid : Prop := fnExactSayTextRow.holds Try.pinned (OpenSpec.ofChange fnExactSayTextSpec)

/-- ITS FALSE NEIGHBOUR: 'it returns false'. Refute it at one input. -/
def fnExactSayTextWrong : ChangeSpec := { name := "fnExactSayText", fn := fun _ => fun
  | [d1, d2] => { results := [.lit (.bool false)], args := [d1, d2] }
  | _ => none }
def FnExactSayTextWrongFalsely : Prop := fnExactSayTextRow.holds Try.pinned (OpenSpec.ofChange fnExactSayTextWrong)

/-- 'laws.FnExactSoIn': WHATEVER THE INPUT: true; the input reads as it did. -/
def fnExactSoInSpec : ChangeSpec := { name := "fnExactSoIn", fn := fun _ => fun
  | [d1, d2, d3] => { results := [.lit (.bool true)], args := [d1, d2, d3] }
  | _ => none }
def fnExactSoInRow : OpenClaim := { program := "ytainbbpmaengjaa", sum := "db40a23b741946093406a1c226b6df88752e23d8a2b060b628fb6115aaae1e35", func := "loop.example/quantifiers/laws.FnExactSoIn", spec := "fnExactSoIn", plainKeys := false, apart := false }
def FnExactSoInSaid : Prop := fnExactSoInRow.holds Try.pinned (OpenSpec.ofChange fnExactSoInSpec)

/-- ITS FALSE NEIGHBOUR: 'it returns false'. Refute it at one input. -/
def fnExactSoInWrong : ChangeSpec := { name := "fnExactSoIn", fn := fun _ => fun
  | [d1, d2, d3] => { results := [.lit (.bool false)], args := [d1, d2, d3] }
  | _ => none }
def FnExactSoInWrongFalsely : Prop := fnExactSoInRow.holds Try.pinned (OpenSpec.ofChange fnExactSoInWrong)

/-- 'laws.FnExactReadSay': WHATEVER THE INPUT: true; the input reads as it did. -/
def fnExactReadSaySpec : ChangeSpec := { name := "fnExactReadSay", fn := fun _ => fun
  | [d1, d2] => { results := [.lit (.bool true)], args := [d1, d2] }
  | _ => none }
def fnExactReadSayRow : OpenClaim := { program := "ytainbbpmaengjaa", sum := "db40a23b741946093406a1c226b6df88752e23d8a2b060b628fb6115aaae1e35", func := "loop.example/quantifiers/laws.FnExactReadSay", spec := "fnExactReadSay", plainKeys := false, apart := false }
def FnExactReadSaySaid : Prop := fnExactReadSayRow.holds Try.pinned (OpenSpec.ofChange fnExactReadSaySpec)

/-- ITS FALSE NEIGHBOUR: 'it returns false'. Refute it at one input. -/
def fnExactReadSayWrong : ChangeSpec := { name := "fnExactReadSay", fn := fun _ => fun
  | [d1, d2] => { results := [.lit (.bool false)], args := [d1, d2] }
  | _ => none }
def FnExactReadSayWrongFalsely : Prop := fnExactReadSayRow.holds Try.pinned (OpenSpec.ofChange fnExactReadSayWrong)

/-- 'laws.FnSayOk': WHATEVER THE INPUT: true; the input reads as it did. -/
def fnSayOkSpec : ChangeSpec := { name := "fnSayOk", fn := fun _ => fun
  | [d] => { results := [.lit (.bool true)], args := [d] }
  | _ => none }
def fnSayOkRow : OpenClaim := { program := "ytainbbpmaengjaa", sum := "db40a23b741946093406a1c226b6df88752e23d8a2b060b628fb6115aaae1e35", func := "loop.example/quantifiers/laws.FnSayOk", spec := "fnSayOk", plainKeys := false, apart := false }
def FnSayOkSaid : Prop := fnSayOkRow.holds Try.pinned (OpenSpec.ofChange fnSayOkSpec)

/-- ITS FALSE NEIGHBOUR: 'it returns false'. Refute it at one input. -/
def fnSayOkWrong : ChangeSpec := { name := "fnSayOk", fn := fun _ => fun
  | [d] => { results := [.lit (.bool false)], args := [d] }
  | _ => none }
def FnSayOkWrongFalsely : Prop := fnSayOkRow.holds Try.pinned (OpenSpec.ofChange fnSayOkWrong)

/-- 'laws.FnExactSaidOk': WHATEVER THE INPUT: true; the input reads as it did. -/
def fnExactSaidOkSpec : ChangeSpec := { name := "fnExactSaidOk", fn := fun _ => fun
  | [d1, d2] => { results := [.lit (.bool true)], args := [d1, d2] }
  | _ => none }
def fnExactSaidOkRow : OpenClaim := { program := "ytainbbpmaengjaa", sum := "db40a23b741946093406a1c226b6df88752e23d8a2b060b628fb6115aaae1e35", func := "loop.example/quantifiers/laws.FnExactSaidOk", spec := "fnExactSaidOk", unfollowed := true, recurses := true, plainKeys := false, apart := false }
def FnExactSaidOkSaid : Prop := fnExactSaidOkRow.holds Try.pinned (OpenSpec.ofChange fnExactSaidOkSpec)

/-- ITS FALSE NEIGHBOUR: 'it returns false'. Refute it at one input. -/
def fnExactSaidOkWrong : ChangeSpec := { name := "fnExactSaidOk", fn := fun _ => fun
  | [d1, d2] => { results := [.lit (.bool false)], args := [d1, d2] }
  | _ => none }
def FnExactSaidOkWrongFalsely : Prop := fnExactSaidOkRow.holds Try.pinned (OpenSpec.ofChange fnExactSaidOkWrong)

/-- 'laws.FnSaidOk': WHATEVER THE INPUT: true; the input reads as it did. -/
def fnSaidOkSpec : ChangeSpec := { name := "fnSaidOk", fn := fun _ => fun
  | [d] => { results := [.lit (.bool true)], args := [d] }
  | _ => none }
def fnSaidOkRow : OpenClaim := { program := "ytainbbpmaengjaa", sum := "db40a23b741946093406a1c226b6df88752e23d8a2b060b628fb6115aaae1e35", func := "loop.example/quantifiers/laws.FnSaidOk", spec := "fnSaidOk", unfollowed := true, recurses := true, plainKeys := false, apart := false }
def FnSaidOkSaid : Prop := fnSaidOkRow.holds Try.pinned (OpenSpec.ofChange fnSaidOkSpec)

/-- ITS FALSE NEIGHBOUR: 'it returns false'. Refute it at one input. -/
def fnSaidOkWrong : ChangeSpec := { name := "fnSaidOk", fn := fun _ => fun
  | [d] => { results := [.lit (.bool false)], args := [d] }
  | _ => none }
def FnSaidOkWrongFalsely : Prop := fnSaidOkRow.holds Try.pinned (OpenSpec.ofChange fnSaidOkWrong)

/-- 'laws.FnSoIn': WHATEVER THE INPUT: true; the input reads as it did. -/
def fnSoInSpec : ChangeSpec := { name := "fnSoIn", fn := fun _ => fun
  | [d] => { results := [.lit (.bool true)], args := [d] }
  | _ => none }
def fnSoInRow : OpenClaim := { program := "ytainbbpmaengjaa", sum := "db40a23b741946093406a1c226b6df88752e23d8a2b060b628fb6115aaae1e35", func := "loop.example/quantifiers/laws.FnSoIn", spec := "fnSoIn", plainKeys := false, apart := false }
def FnSoInSaid : Prop := fnSoInRow.holds Try.pinned (OpenSpec.ofChange fnSoInSpec)

/-- ITS FALSE NEIGHBOUR: 'it returns false'. Refute it at one input. -/
def fnSoInWrong : ChangeSpec := { name := "fnSoIn", fn := fun _ => fun
  | [d] => { results := [.lit (.bool false)], args := [d] }
  | _ => none }
def FnSoInWrongFalsely : Prop := fnSoInRow.holds Try.pinned (OpenSpec.ofChange fnSoInWrong)

/-- 'laws.FnSayText': WHATEVER THE INPUT: true; the input reads as it did. -/
def fnSayTextSpec : ChangeSpec := { name := "fnSayText", fn := fun _ => fun
  | [d] => { results := [.lit (.bool true)], args := [d] }
  | _ => none }
def fnSayTextRow : OpenClaim := { program := "ytainbbpmaengjaa", sum := "db40a23b741946093406a1c226b6df88752e23d8a2b060b628fb6115aaae1e35", func := "loop.example/quantifiers/laws.FnSayText", spec := "fnSayText", plainKeys := false, apart := false }
def FnSayTextSaid : Prop := fnSayTextRow.holds Try.pinned (OpenSpec.ofChange fnSayTextSpec)

/-- ITS FALSE NEIGHBOUR: 'it returns false'. Refute it at one input. -/
def fnSayTextWrong : ChangeSpec := { name := "fnSayText", fn := fun _ => fun
  | [d] => { results := [.lit (.bool false)], args := [d] }
  | _ => none }
def FnSayTextWrongFalsely : Prop := fnSayTextRow.holds Try.pinned (OpenSpec.ofChange fnSayTextWrong)

/-- 'laws.FnReadSay': WHATEVER THE INPUT: true; the input reads as it did. -/
def fnReadSaySpec : ChangeSpec := { name := "fnReadSay", fn := fun _ => fun
  | [d] => { results := [.lit (.bool true)], args := [d] }
  | _ => none }
def fnReadSayRow : OpenClaim := { program := "ytainbbpmaengjaa", sum := "db40a23b741946093406a1c226b6df88752e23d8a2b060b628fb6115aaae1e35", func := "loop.example/quantifiers/laws.FnReadSay", spec := "fnReadSay", plainKeys := false, apart := false }
def FnReadSaySaid : Prop := fnReadSayRow.holds Try.pinned (OpenSpec.ofChange fnReadSaySpec)

/-- ITS FALSE NEIGHBOUR: 'it returns false'. Refute it at one input. -/
def fnReadSayWrong : ChangeSpec := { name := "fnReadSay", fn := fun _ => fun
  | [d] => { results := [.lit (.bool false)], args := [d] }
  | _ => none }
def FnReadSayWrongFalsely : Prop := fnReadSayRow.holds Try.pinned (OpenSpec.ofChange fnReadSayWrong)

/-- 'laws.FnExactWorldWithout': WHATEVER THE INPUT: true; the input reads as it did. -/
def fnExactWorldWithoutSpec : ChangeSpec := { name := "fnExactWorldWithout", fn := fun _ => fun
  | [d1, d2, d3] => { results := [.lit (.bool true)], args := [d1, d2, d3] }
  | _ => none }
def fnExactWorldWithoutRow : OpenClaim := { program := "ytainbbpmaengjaa", sum := "db40a23b741946093406a1c226b6df88752e23d8a2b060b628fb6115aaae1e35", func := "loop.example/quantifiers/laws.FnExactWorldWithout", spec := "fnExactWorldWithout", unfollowed := true, recurses := true, plainKeys := false, apart := false }
def FnExactWorldWithoutSaid : Prop := fnExactWorldWithoutRow.holds Try.pinned (OpenSpec.ofChange fnExactWorldWithoutSpec)

/-- ITS FALSE NEIGHBOUR: 'it returns false'. Refute it at one input. -/
def fnExactWorldWithoutWrong : ChangeSpec := { name := "fnExactWorldWithout", fn := fun _ => fun
  | [d1, d2, d3] => { results := [.lit (.bool false)], args := [d1, d2, d3] }
  | _ => none }
def FnExactWorldWithoutWrongFalsely : Prop := fnExactWorldWithoutRow.holds Try.pinned (OpenSpec.ofChange fnExactWorldWithoutWrong)

/-- 'laws.FnExactProved': WHATEVER THE INPUT: true; the input reads as it did. -/
def fnExactProvedSpec : ChangeSpec := { name := "fnExactProved", fn := fun _ => fun
  | [d1, d2, d3] => { results := [.lit (.bool true)], args := [d1, d2, d3] }
  | _ => none }
def fnExactProvedRow : OpenClaim := { program := "ytainbbpmaengjaa", sum := "db40a23b741946093406a1c226b6df88752e23d8a2b060b628fb6115aaae1e35", func := "loop.example/quantifiers/laws.FnExactProved", spec := "fnExactProved", unfollowed := true, recurses := true, plainKeys := false, apart := false }
def FnExactProvedSaid : Prop := fnExactProvedRow.holds Try.pinned (OpenSpec.ofChange fnExactProvedSpec)

/-- ITS FALSE NEIGHBOUR: 'it returns false'. Refute it at one input. -/
def fnExactProvedWrong : ChangeSpec := { name := "fnExactProved", fn := fun _ => fun
  | [d1, d2, d3] => { results := [.lit (.bool false)], args := [d1, d2, d3] }
  | _ => none }
def FnExactProvedWrongFalsely : Prop := fnExactProvedRow.holds Try.pinned (OpenSpec.ofChange fnExactProvedWrong)

/-- 'laws.FnExactProvedMany': WHATEVER THE INPUT: true; the input reads as it did. -/
def fnExactProvedManySpec : ChangeSpec := { name := "fnExactProvedMany", fn := fun _ => fun
  | [d1, d2] => { results := [.lit (.bool true)], args := [d1, d2] }
  | _ => none }
def fnExactProvedManyRow : OpenClaim := { program := "ytainbbpmaengjaa", sum := "db40a23b741946093406a1c226b6df88752e23d8a2b060b628fb6115aaae1e35", func := "loop.example/quantifiers/laws.FnExactProvedMany", spec := "fnExactProvedMany", unfollowed := true, recurses := true, plainKeys := false, apart := false }
def FnExactProvedManySaid : Prop := fnExactProvedManyRow.holds Try.pinned (OpenSpec.ofChange fnExactProvedManySpec)

/-- ITS FALSE NEIGHBOUR: 'it returns false'. Refute it at one input. -/
def fnExactProvedManyWrong : ChangeSpec := { name := "fnExactProvedMany", fn := fun _ => fun
  | [d1, d2] => { results := [.lit (.bool false)], args := [d1, d2] }
  | _ => none }
def FnExactProvedManyWrongFalsely : Prop := fnExactProvedManyRow.holds Try.pinned (OpenSpec.ofChange fnExactProvedManyWrong)

/-- 'laws.FnWorldWithout': WHATEVER THE INPUT: true; the input reads as it did. -/
def fnWorldWithoutSpec : ChangeSpec := { name := "fnWorldWithout", fn := fun _ => fun
  | [d] => { results := [.lit (.bool true)], args := [d] }
  | _ => none }
def fnWorldWithoutRow : OpenClaim := { program := "ytainbbpmaengjaa", sum := "db40a23b741946093406a1c226b6df88752e23d8a2b060b628fb6115aaae1e35", func := "loop.example/quantifiers/laws.FnWorldWithout", spec := "fnWorldWithout", unfollowed := true, recurses := true, plainKeys := false, apart := false }
def FnWorldWithoutSaid : Prop := fnWorldWithoutRow.holds Try.pinned (OpenSpec.ofChange fnWorldWithoutSpec)

/-- ITS FALSE NEIGHBOUR: 'it returns false'. Refute it at one input. -/
def fnWorldWithoutWrong : ChangeSpec := { name := "fnWorldWithout", fn := fun _ => fun
  | [d] => { results := [.lit (.bool false)], args := [d] }
  | _ => none }
def FnWorldWithoutWrongFalsely : Prop := fnWorldWithoutRow.holds Try.pinned (OpenSpec.ofChange fnWorldWithoutWrong)

/-- 'laws.FnProvedMany': WHATEVER THE INPUT: true; the input reads as it did. -/
def fnProvedManySpec : ChangeSpec := { name := "fnProvedMany", fn := fun _ => fun
  | [d] => { results := [.lit (.bool true)], args := [d] }
  | _ => none }
def fnProvedManyRow : OpenClaim := { program := "ytainbbpmaengjaa", sum := "db40a23b741946093406a1c226b6df88752e23d8a2b060b628fb6115aaae1e35", func := "loop.example/quantifiers/laws.FnProvedMany", spec := "fnProvedMany", unfollowed := true, recurses := true, plainKeys := false, apart := false }
def FnProvedManySaid : Prop := fnProvedManyRow.holds Try.pinned (OpenSpec.ofChange fnProvedManySpec)

/-- ITS FALSE NEIGHBOUR: 'it returns false'. Refute it at one input. -/
def fnProvedManyWrong : ChangeSpec := { name := "fnProvedMany", fn := fun _ => fun
  | [d] => { results := [.lit (.bool false)], args := [d] }
  | _ => none }
def FnProvedManyWrongFalsely : Prop := fnProvedManyRow.holds Try.pinned (OpenSpec.ofChange fnProvedManyWrong)

/-- 'laws.FnProved': WHATEVER THE INPUT: true; the input reads as it did. -/
def fnProvedSpec : ChangeSpec := { name := "fnProved", fn := fun _ => fun
  | [d] => { results := [.lit (.bool true)], args := [d] }
  | _ => none }
def fnProvedRow : OpenClaim := { program := "ytainbbpmaengjaa", sum := "db40a23b741946093406a1c226b6df88752e23d8a2b060b628fb6115aaae1e35", func := "loop.example/quantifiers/laws.FnProved", spec := "fnProved", unfollowed := true, recurses := true, plainKeys := false, apart := false }
def FnProvedSaid : Prop := fnProvedRow.holds Try.pinned (OpenSpec.ofChange fnProvedSpec)

/-- ITS FALSE NEIGHBOUR: 'it returns false'. Refute it at one input. -/
def fnProvedWrong : ChangeSpec := { name := "fnProved", fn := fun _ => fun
  | [d] => { results := [.lit (.bool false)], args := [d] }
  | _ => none }
def FnProvedWrongFalsely : Prop := fnProvedRow.holds Try.pinned (OpenSpec.ofChange fnProvedWrong)

/- THE SECOND FORM. 'bulk': how many values and letters a reading holds, each counted each time it is reached (what is shared counts as often as it is met; a slice's spare places count too). A statement '..UptoSaid' is the law's where the arguments, and the package variables that the reading takes, are together of bulk at most 1048576: NARROWER than '..Said'. Prove '..Said' where nothing that the law and all that it calls make is longer than what came in: it says more and counts as full. Else prove '..UptoSaid'. A law counts once. -/
mutual
def uptoBulk {H : Type} : DataW H → Nat
  | .lit (.string bytes) => bytes.length + 1
  | .lit _ => 1
  | .nil => 1
  | .ptr d => uptoBulk d + 1
  | .slice elems spare => uptoBulkAll elems + uptoBulkAll spare + 1
  | .agg parts => uptoBulkAll parts + 1
  | .iface _ d => uptoBulk d + 1
  | .map entries => uptoBulkEntries entries + 1
  | .held _ => 1
def uptoBulkAll {H : Type} : List (DataW H) → Nat
  | [] => 0
  | d :: r => uptoBulk d + uptoBulkAll r
def uptoBulkEntries {H : Type} : List (Lit × DataW H) → Nat
  | [] => 0
  | x :: r => uptoBulkEntry x + uptoBulkEntries r
def uptoBulkEntry {H : Type} : Lit × DataW H → Nat
  | (.string bytes, d) => bytes.length + uptoBulk d + 1
  | (_, d) => uptoBulk d + 1
 end
def uptoSmall : (H : Type) → List (DataW H) → Bool := fun _ ds => decide (uptoBulkAll ds ≤ 1048576)
def OpenSpec.upto (s : _root_.Go.ChangeSpec) : _root_.Go.OpenSpec := { _root_.Go.OpenSpec.ofChange s with cond := some uptoSmall }

/-- 'laws.FnExactSayOk', WHERE WHAT IT READS IS OF BULK AT MOST 1048576: true; the input reads as it did. -/
def fnExactSayOkUptoRow : OpenClaim := { program := "ytainbbpmaengjaa", sum := "db40a23b741946093406a1c226b6df88752e23d8a2b060b628fb6115aaae1e35", func := "loop.example/quantifiers/laws.FnExactSayOk", spec := "fnExactSayOk", plainKeys := false, apart := false, narrowed := true }
def FnExactSayOkUptoSaid : Prop := fnExactSayOkUptoRow.holds Try.pinned (OpenSpec.upto fnExactSayOkSpec)

/-- 'laws.FnExactSayText', WHERE WHAT IT READS IS OF BULK AT MOST 1048576: true; the input reads as it did. -/
def fnExactSayTextUptoRow : OpenClaim := { program := "ytainbbpmaengjaa", sum := "db40a23b741946093406a1c226b6df88752e23d8a2b060b628fb6115aaae1e35", func := "loop.example/quantifiers/laws.FnExactSayText", spec := "fnExactSayText", plainKeys := false, apart := false, narrowed := true }
def FnExactSayTextUptoSaid : Prop := fnExactSayTextUptoRow.holds Try.pinned (OpenSpec.upto fnExactSayTextSpec)

/-- 'laws.FnExactSoIn', WHERE WHAT IT READS IS OF BULK AT MOST 1048576: true; the input reads as it did. -/
def fnExactSoInUptoRow : OpenClaim := { program := "ytainbbpmaengjaa", sum := "db40a23b741946093406a1c226b6df88752e23d8a2b060b628fb6115aaae1e35", func := "loop.example/quantifiers/laws.FnExactSoIn", spec := "fnExactSoIn", plainKeys := false, apart := false, narrowed := true }
def FnExactSoInUptoSaid : Prop := fnExactSoInUptoRow.holds Try.pinned (OpenSpec.upto fnExactSoInSpec)

/-- 'laws.FnExactReadSay', WHERE WHAT IT READS IS OF BULK AT MOST 1048576: true; the input reads as it did. -/
def fnExactReadSayUptoRow : OpenClaim := { program := "ytainbbpmaengjaa", sum := "db40a23b741946093406a1c226b6df88752e23d8a2b060b628fb6115aaae1e35", func := "loop.example/quantifiers/laws.FnExactReadSay", spec := "fnExactReadSay", plainKeys := false, apart := false, narrowed := true }
def FnExactReadSayUptoSaid : Prop := fnExactReadSayUptoRow.holds Try.pinned (OpenSpec.upto fnExactReadSaySpec)

/-- 'laws.FnSayOk', WHERE WHAT IT READS IS OF BULK AT MOST 1048576: true; the input reads as it did. -/
def fnSayOkUptoRow : OpenClaim := { program := "ytainbbpmaengjaa", sum := "db40a23b741946093406a1c226b6df88752e23d8a2b060b628fb6115aaae1e35", func := "loop.example/quantifiers/laws.FnSayOk", spec := "fnSayOk", plainKeys := false, apart := false, narrowed := true }
def FnSayOkUptoSaid : Prop := fnSayOkUptoRow.holds Try.pinned (OpenSpec.upto fnSayOkSpec)

/-- 'laws.FnExactSaidOk', WHERE WHAT IT READS IS OF BULK AT MOST 1048576: true; the input reads as it did. -/
def fnExactSaidOkUptoRow : OpenClaim := { program := "ytainbbpmaengjaa", sum := "db40a23b741946093406a1c226b6df88752e23d8a2b060b628fb6115aaae1e35", func := "loop.example/quantifiers/laws.FnExactSaidOk", spec := "fnExactSaidOk", unfollowed := true, recurses := true, plainKeys := false, apart := false, narrowed := true }
def FnExactSaidOkUptoSaid : Prop := fnExactSaidOkUptoRow.holds Try.pinned (OpenSpec.upto fnExactSaidOkSpec)

/-- 'laws.FnSaidOk', WHERE WHAT IT READS IS OF BULK AT MOST 1048576: true; the input reads as it did. -/
def fnSaidOkUptoRow : OpenClaim := { program := "ytainbbpmaengjaa", sum := "db40a23b741946093406a1c226b6df88752e23d8a2b060b628fb6115aaae1e35", func := "loop.example/quantifiers/laws.FnSaidOk", spec := "fnSaidOk", unfollowed := true, recurses := true, plainKeys := false, apart := false, narrowed := true }
def FnSaidOkUptoSaid : Prop := fnSaidOkUptoRow.holds Try.pinned (OpenSpec.upto fnSaidOkSpec)

/-- 'laws.FnSoIn', WHERE WHAT IT READS IS OF BULK AT MOST 1048576: true; the input reads as it did. -/
def fnSoInUptoRow : OpenClaim := { program := "ytainbbpmaengjaa", sum := "db40a23b741946093406a1c226b6df88752e23d8a2b060b628fb6115aaae1e35", func := "loop.example/quantifiers/laws.FnSoIn", spec := "fnSoIn", plainKeys := false, apart := false, narrowed := true }
def FnSoInUptoSaid : Prop := fnSoInUptoRow.holds Try.pinned (OpenSpec.upto fnSoInSpec)

/-- 'laws.FnSayText', WHERE WHAT IT READS IS OF BULK AT MOST 1048576: true; the input reads as it did. -/
def fnSayTextUptoRow : OpenClaim := { program := "ytainbbpmaengjaa", sum := "db40a23b741946093406a1c226b6df88752e23d8a2b060b628fb6115aaae1e35", func := "loop.example/quantifiers/laws.FnSayText", spec := "fnSayText", plainKeys := false, apart := false, narrowed := true }
def FnSayTextUptoSaid : Prop := fnSayTextUptoRow.holds Try.pinned (OpenSpec.upto fnSayTextSpec)

/-- 'laws.FnReadSay', WHERE WHAT IT READS IS OF BULK AT MOST 1048576: true; the input reads as it did. -/
def fnReadSayUptoRow : OpenClaim := { program := "ytainbbpmaengjaa", sum := "db40a23b741946093406a1c226b6df88752e23d8a2b060b628fb6115aaae1e35", func := "loop.example/quantifiers/laws.FnReadSay", spec := "fnReadSay", plainKeys := false, apart := false, narrowed := true }
def FnReadSayUptoSaid : Prop := fnReadSayUptoRow.holds Try.pinned (OpenSpec.upto fnReadSaySpec)

/-- 'laws.FnExactWorldWithout', WHERE WHAT IT READS IS OF BULK AT MOST 1048576: true; the input reads as it did. -/
def fnExactWorldWithoutUptoRow : OpenClaim := { program := "ytainbbpmaengjaa", sum := "db40a23b741946093406a1c226b6df88752e23d8a2b060b628fb6115aaae1e35", func := "loop.example/quantifiers/laws.FnExactWorldWithout", spec := "fnExactWorldWithout", unfollowed := true, recurses := true, plainKeys := false, apart := false, narrowed := true }
def FnExactWorldWithoutUptoSaid : Prop := fnExactWorldWithoutUptoRow.holds Try.pinned (OpenSpec.upto fnExactWorldWithoutSpec)

/-- 'laws.FnExactProved', WHERE WHAT IT READS IS OF BULK AT MOST 1048576: true; the input reads as it did. -/
def fnExactProvedUptoRow : OpenClaim := { program := "ytainbbpmaengjaa", sum := "db40a23b741946093406a1c226b6df88752e23d8a2b060b628fb6115aaae1e35", func := "loop.example/quantifiers/laws.FnExactProved", spec := "fnExactProved", unfollowed := true, recurses := true, plainKeys := false, apart := false, narrowed := true }
def FnExactProvedUptoSaid : Prop := fnExactProvedUptoRow.holds Try.pinned (OpenSpec.upto fnExactProvedSpec)

/-- 'laws.FnExactProvedMany', WHERE WHAT IT READS IS OF BULK AT MOST 1048576: true; the input reads as it did. -/
def fnExactProvedManyUptoRow : OpenClaim := { program := "ytainbbpmaengjaa", sum := "db40a23b741946093406a1c226b6df88752e23d8a2b060b628fb6115aaae1e35", func := "loop.example/quantifiers/laws.FnExactProvedMany", spec := "fnExactProvedMany", unfollowed := true, recurses := true, plainKeys := false, apart := false, narrowed := true }
def FnExactProvedManyUptoSaid : Prop := fnExactProvedManyUptoRow.holds Try.pinned (OpenSpec.upto fnExactProvedManySpec)

/-- 'laws.FnWorldWithout', WHERE WHAT IT READS IS OF BULK AT MOST 1048576: true; the input reads as it did. -/
def fnWorldWithoutUptoRow : OpenClaim := { program := "ytainbbpmaengjaa", sum := "db40a23b741946093406a1c226b6df88752e23d8a2b060b628fb6115aaae1e35", func := "loop.example/quantifiers/laws.FnWorldWithout", spec := "fnWorldWithout", unfollowed := true, recurses := true, plainKeys := false, apart := false, narrowed := true }
def FnWorldWithoutUptoSaid : Prop := fnWorldWithoutUptoRow.holds Try.pinned (OpenSpec.upto fnWorldWithoutSpec)

/-- 'laws.FnProvedMany', WHERE WHAT IT READS IS OF BULK AT MOST 1048576: true; the input reads as it did. -/
def fnProvedManyUptoRow : OpenClaim := { program := "ytainbbpmaengjaa", sum := "db40a23b741946093406a1c226b6df88752e23d8a2b060b628fb6115aaae1e35", func := "loop.example/quantifiers/laws.FnProvedMany", spec := "fnProvedMany", unfollowed := true, recurses := true, plainKeys := false, apart := false, narrowed := true }
def FnProvedManyUptoSaid : Prop := fnProvedManyUptoRow.holds Try.pinned (OpenSpec.upto fnProvedManySpec)

/-- 'laws.FnProved', WHERE WHAT IT READS IS OF BULK AT MOST 1048576: true; the input reads as it did. -/
def fnProvedUptoRow : OpenClaim := { program := "ytainbbpmaengjaa", sum := "db40a23b741946093406a1c226b6df88752e23d8a2b060b628fb6115aaae1e35", func := "loop.example/quantifiers/laws.FnProved", spec := "fnProved", unfollowed := true, recurses := true, plainKeys := false, apart := false, narrowed := true }
def FnProvedUptoSaid : Prop := fnProvedUptoRow.holds Try.pinned (OpenSpec.upto fnProvedSpec)

end Rows
end Go.Proofs.Ytainbbpmaengjaa
