/-
  No cell of these rows narrows 'for every input' (looked for: loops, veiled, ifaces, maps, wideKeys, modest, calm, conditions, laid).
  DERIVED. THE GIVEN ROWS OF THIS SEAT. 5 by the template 'for every input the law returns true; each argument reads behind the call as it read before'; 0 by the template 'total and deterministic' (their statements: YtgaapfldimokpaaTotals.lean).
  GIVEN WITH THE SEED: the statements are not yours to turn. If you find one false, say at which input.
  Laid BY PROGRAM, IN A SANDBOX (cutbox-rows.mjs): the forced cells as the released guide's own fill.sh prints them over the translation 3acbeb995ec4d6bd… (all of the seat's roots in one cut). By AI agents, Wed Nov 11 2026. No macro, syntax, notation, axiom, sorry.
-/
import Derived.Test.YtgaapfldimokpaaChecked
import GoSem.Claim
import GoSem.ClaimJoined
import GoSem.ClaimMapViews
import Derived.JoinedTies
import Derived.KernelRfl
namespace Go.Proofs.Ytgaapfldimokpaa
/- THE CELL 'sum', in the pinned program and in every row, IS THE sha256 OF THE DUMP (.gsa) THAT YtgaapfldimokpaaProg.lean LOADS. Nothing in Lean hashes anything: it is a label: what it is worth is what the hold of that sum in a sandbox is worth. -/
noncomputable def Try.pinned : Pinned := { name := "ytgaapfldimokpaa", sum := "3acbeb995ec4d6bd59a54a6dc443a3d8efba494d02c7d60cf9b2026e3431619b", checked := Try.checked }
namespace Rows
def none {H : Type} : Left H := { results := [], args := [] }

/-- 'laws.FnExactNamedMachine': WHATEVER THE INPUT: true; the input reads as it did. -/
def fnExactNamedMachineSpec : ChangeSpec := { name := "fnExactNamedMachine", fn := fun _ => fun
  | [d] => { results := [.lit (.bool true)], args := [d] }
  | _ => none }
def fnExactNamedMachineRow : OpenClaim := { program := "ytgaapfldimokpaa", sum := "3acbeb995ec4d6bd59a54a6dc443a3d8efba494d02c7d60cf9b2026e3431619b", func := "loop.example/quantifiers/laws.FnExactNamedMachine", spec := "fnExactNamedMachine", recurses := true, apart := false }
def FnExactNamedMachineSaid : Prop := fnExactNamedMachineRow.holds Try.pinned (OpenSpec.ofChange fnExactNamedMachineSpec)

/-- ITS FALSE NEIGHBOUR: 'it returns false'. Refute it at one input. -/
def fnExactNamedMachineWrong : ChangeSpec := { name := "fnExactNamedMachine", fn := fun _ => fun
  | [d] => { results := [.lit (.bool false)], args := [d] }
  | _ => none }
def FnExactNamedMachineWrongFalsely : Prop := fnExactNamedMachineRow.holds Try.pinned (OpenSpec.ofChange fnExactNamedMachineWrong)

/-- 'laws.FnExactMachineBoth': WHATEVER THE INPUT: true; the input reads as it did. -/
def fnExactMachineBothSpec : ChangeSpec := { name := "fnExactMachineBoth", fn := fun _ => fun
  | [d1, d2] => { results := [.lit (.bool true)], args := [d1, d2] }
  | _ => none }
def fnExactMachineBothRow : OpenClaim := { program := "ytgaapfldimokpaa", sum := "3acbeb995ec4d6bd59a54a6dc443a3d8efba494d02c7d60cf9b2026e3431619b", func := "loop.example/quantifiers/laws.FnExactMachineBoth", spec := "fnExactMachineBoth", apart := false }
def FnExactMachineBothSaid : Prop := fnExactMachineBothRow.holds Try.pinned (OpenSpec.ofChange fnExactMachineBothSpec)

/-- ITS FALSE NEIGHBOUR: 'it returns false'. Refute it at one input. -/
def fnExactMachineBothWrong : ChangeSpec := { name := "fnExactMachineBoth", fn := fun _ => fun
  | [d1, d2] => { results := [.lit (.bool false)], args := [d1, d2] }
  | _ => none }
def FnExactMachineBothWrongFalsely : Prop := fnExactMachineBothRow.holds Try.pinned (OpenSpec.ofChange fnExactMachineBothWrong)

/-- 'laws.FnMachineOk': WHATEVER THE INPUT: true; the input reads as it did. -/
def fnMachineOkSpec : ChangeSpec := { name := "fnMachineOk", fn := fun _ => fun
  | [d] => { results := [.lit (.bool true)], args := [d] }
  | _ => none }
def fnMachineOkRow : OpenClaim := { program := "ytgaapfldimokpaa", sum := "3acbeb995ec4d6bd59a54a6dc443a3d8efba494d02c7d60cf9b2026e3431619b", func := "loop.example/quantifiers/laws.FnMachineOk", spec := "fnMachineOk", recurses := true, apart := false }
def FnMachineOkSaid : Prop := fnMachineOkRow.holds Try.pinned (OpenSpec.ofChange fnMachineOkSpec)

/-- ITS FALSE NEIGHBOUR: 'it returns false'. Refute it at one input. -/
def fnMachineOkWrong : ChangeSpec := { name := "fnMachineOk", fn := fun _ => fun
  | [d] => { results := [.lit (.bool false)], args := [d] }
  | _ => none }
def FnMachineOkWrongFalsely : Prop := fnMachineOkRow.holds Try.pinned (OpenSpec.ofChange fnMachineOkWrong)

/-- 'laws.FnMachineNot': WHATEVER THE INPUT: true; the input reads as it did. -/
def fnMachineNotSpec : ChangeSpec := { name := "fnMachineNot", fn := fun _ => fun
  | [d] => { results := [.lit (.bool true)], args := [d] }
  | _ => none }
def fnMachineNotRow : OpenClaim := { program := "ytgaapfldimokpaa", sum := "3acbeb995ec4d6bd59a54a6dc443a3d8efba494d02c7d60cf9b2026e3431619b", func := "loop.example/quantifiers/laws.FnMachineNot", spec := "fnMachineNot", recurses := true, apart := false }
def FnMachineNotSaid : Prop := fnMachineNotRow.holds Try.pinned (OpenSpec.ofChange fnMachineNotSpec)

/-- ITS FALSE NEIGHBOUR: 'it returns false'. Refute it at one input. -/
def fnMachineNotWrong : ChangeSpec := { name := "fnMachineNot", fn := fun _ => fun
  | [d] => { results := [.lit (.bool false)], args := [d] }
  | _ => none }
def FnMachineNotWrongFalsely : Prop := fnMachineNotRow.holds Try.pinned (OpenSpec.ofChange fnMachineNotWrong)

/-- 'laws.FnAnyOrder': WHATEVER THE INPUT: true; the input reads as it did. -/
def fnAnyOrderSpec : ChangeSpec := { name := "fnAnyOrder", fn := fun _ => fun
  | [d] => { results := [.lit (.bool true)], args := [d] }
  | _ => none }
def fnAnyOrderRow : OpenClaim := { program := "ytgaapfldimokpaa", sum := "3acbeb995ec4d6bd59a54a6dc443a3d8efba494d02c7d60cf9b2026e3431619b", func := "loop.example/quantifiers/laws.FnAnyOrder", spec := "fnAnyOrder", unfollowed := true, recurses := true, apart := false }
def FnAnyOrderSaid : Prop := fnAnyOrderRow.holds Try.pinned (OpenSpec.ofChange fnAnyOrderSpec)

/-- ITS FALSE NEIGHBOUR: 'it returns false'. Refute it at one input. -/
def fnAnyOrderWrong : ChangeSpec := { name := "fnAnyOrder", fn := fun _ => fun
  | [d] => { results := [.lit (.bool false)], args := [d] }
  | _ => none }
def FnAnyOrderWrongFalsely : Prop := fnAnyOrderRow.holds Try.pinned (OpenSpec.ofChange fnAnyOrderWrong)

/- THE SECOND FORM. 'bulk': how many values and letters a reading holds, each counted each time it is reached (what is shared counts as often as it is met; a slice's spare places count too). A statement '..UptoSaid' is the law's where the arguments, and the package variables that the reading takes, are together of bulk at most 1048576: NARROWER than '..Said'. Prove '..Said' where nothing that the law and all that it calls make is longer than what came in: it says more and counts as full. Else prove '..UptoSaid'. A law counts once. -/
mutual
def uptoBulk {H : Type} : DataW H → Nat
  | .lit (.string bytes) => bytes.length + 1
  | .lit _ => 1
  | .nil => 1
  | .ptr d => uptoBulk d + 1
  | .slice elems spare => uptoBulkAll elems + uptoBulkAll spare + 1
  | .agg parts => uptoBulkAll parts + 1
  | .iface _ d => uptoBulk d + 1
  | .map entries => uptoBulkEntries entries + 1
  | .held _ => 1
def uptoBulkAll {H : Type} : List (DataW H) → Nat
  | [] => 0
  | d :: r => uptoBulk d + uptoBulkAll r
def uptoBulkEntries {H : Type} : List (Lit × DataW H) → Nat
  | [] => 0
  | x :: r => uptoBulkEntry x + uptoBulkEntries r
def uptoBulkEntry {H : Type} : Lit × DataW H → Nat
  | (.string bytes, d) => bytes.length + uptoBulk d + 1
  | (_, d) => uptoBulk d + 1
 end
def uptoSmall : (H : Type) → List (DataW H) → Bool := fun _ ds => decide (uptoBulkAll ds ≤ 1048576)
def OpenSpec.upto (s : _root_.Go.ChangeSpec) : _root_.Go.OpenSpec := { _root_.Go.OpenSpec.ofChange s with cond := some uptoSmall }

/-- 'laws.FnExactNamedMachine', WHERE WHAT IT READS IS OF BULK AT MOST 1048576: true; the input reads as it did. -/
def fnExactNamedMachineUptoRow : OpenClaim := { program := "ytgaapfldimokpaa", sum := "3acbeb995ec4d6bd59a54a6dc443a3d8efba494d02c7d60cf9b2026e3431619b", func := "loop.example/quantifiers/laws.FnExactNamedMachine", spec := "fnExactNamedMachine", recurses := true, apart := false, narrowed := true }
def FnExactNamedMachineUptoSaid : Prop := fnExactNamedMachineUptoRow.holds Try.pinned (OpenSpec.upto fnExactNamedMachineSpec)

/-- 'laws.FnExactMachineBoth', WHERE WHAT IT READS IS OF BULK AT MOST 1048576: true; the input reads as it did. -/
def fnExactMachineBothUptoRow : OpenClaim := { program := "ytgaapfldimokpaa", sum := "3acbeb995ec4d6bd59a54a6dc443a3d8efba494d02c7d60cf9b2026e3431619b", func := "loop.example/quantifiers/laws.FnExactMachineBoth", spec := "fnExactMachineBoth", apart := false, narrowed := true }
def FnExactMachineBothUptoSaid : Prop := fnExactMachineBothUptoRow.holds Try.pinned (OpenSpec.upto fnExactMachineBothSpec)

/-- 'laws.FnMachineOk', WHERE WHAT IT READS IS OF BULK AT MOST 1048576: true; the input reads as it did. -/
def fnMachineOkUptoRow : OpenClaim := { program := "ytgaapfldimokpaa", sum := "3acbeb995ec4d6bd59a54a6dc443a3d8efba494d02c7d60cf9b2026e3431619b", func := "loop.example/quantifiers/laws.FnMachineOk", spec := "fnMachineOk", recurses := true, apart := false, narrowed := true }
def FnMachineOkUptoSaid : Prop := fnMachineOkUptoRow.holds Try.pinned (OpenSpec.upto fnMachineOkSpec)

/-- 'laws.FnMachineNot', WHERE WHAT IT READS IS OF BULK AT MOST 1048576: true; the input reads as it did. -/
def fnMachineNotUptoRow : OpenClaim := { program := "ytgaapfldimokpaa", sum := "3acbeb995ec4d6bd59a54a6dc443a3d8efba494d02c7d60cf9b2026e3431619b", func := "loop.example/quantifiers/laws.FnMachineNot", spec := "fnMachineNot", recurses := true, apart := false, narrowed := true }
def FnMachineNotUptoSaid : Prop := fnMachineNotUptoRow.holds Try.pinned (OpenSpec.upto fnMachineNotSpec)

/-- 'laws.FnAnyOrder', WHERE WHAT IT READS IS OF BULK AT MOST 1048576: true; the input reads as it did. -/
def fnAnyOrderUptoRow : OpenClaim := { program := "ytgaapfldimokpaa", sum := "3acbeb995ec4d6bd59a54a6dc443a3d8efba494d02c7d60cf9b2026e3431619b", func := "loop.example/quantifiers/laws.FnAnyOrder", spec := "fnAnyOrder", unfollowed := true, recurses := true, apart := false, narrowed := true }
def FnAnyOrderUptoSaid : Prop := fnAnyOrderUptoRow.holds Try.pinned (OpenSpec.upto fnAnyOrderSpec)

end Rows
end Go.Proofs.Ytgaapfldimokpaa
