/-
  No cell of these rows narrows 'for every input' (looked for: loops, veiled, ifaces, maps, wideKeys, modest, calm, conditions, laid).
  DERIVED. THE GIVEN ROWS OF THIS SEAT. 14 by the template 'for every input the law returns true; each argument reads behind the call as it read before'; 0 by the template 'total and deterministic' (their statements: YtieplhemmfibiaaTotals.lean).
  GIVEN WITH THE SEED: the statements are not yours to turn. If you find one false, say at which input.
  Laid BY PROGRAM, IN A SANDBOX (cutbox-rows.mjs): the forced cells as the released guide's own fill.sh prints them over the translation 3a4c82ac4e9439b7… (all of the seat's roots in one cut). By AI agents, Wed Nov 11 2026. No macro, syntax, notation, axiom, sorry.
-/
import Derived.Test.YtieplhemmfibiaaChecked
import GoSem.Claim
import GoSem.ClaimJoined
import GoSem.ClaimMapViews
import Derived.JoinedTies
import Derived.KernelRfl
namespace Go.Proofs.Ytieplhemmfibiaa
/- THE CELL 'sum', in the pinned program and in every row, IS THE sha256 OF THE DUMP (.gsa) THAT YtieplhemmfibiaaProg.lean LOADS. Nothing in Lean hashes anything: it is a label: what it is worth is what the hold of that sum in a sandbox is worth. -/
noncomputable def Try.pinned : Pinned := { name := "ytieplhemmfibiaa", sum := "3a4c82ac4e9439b7f0e400702dea9f15afaf9ed6b83ebdf5b291669a5b5b4636", checked := Try.checked }
namespace Rows
def none {H : Type} : Left H := { results := [], args := [] }

/-- 'laws.FnExactMachineOk': WHATEVER THE INPUT: true; the input reads as it did. -/
def fnExactMachineOkSpec : ChangeSpec := { name := "fnExactMachineOk", fn := fun _ => fun
  | [d] => { results := [.lit (.bool true)], args := [d] }
  | _ => none }
def fnExactMachineOkRow : OpenClaim := { program := "ytieplhemmfibiaa", sum := "3a4c82ac4e9439b7f0e400702dea9f15afaf9ed6b83ebdf5b291669a5b5b4636", func := "loop.example/quantifiers/laws.FnExactMachineOk", spec := "fnExactMachineOk", apart := false }
def FnExactMachineOkSaid : Prop := fnExactMachineOkRow.holds Try.pinned (OpenSpec.ofChange fnExactMachineOkSpec)

/-- ITS FALSE NEIGHBOUR: 'it returns false'. Refute it at one input. -/
def fnExactMachineOkWrong : ChangeSpec := { name := "fnExactMachineOk", fn := fun _ => fun
  | [d] => { results := [.lit (.bool false)], args := [d] }
  | _ => none }
def FnExactMachineOkWrongFalsely : Prop := fnExactMachineOkRow.holds Try.pinned (OpenSpec.ofChange fnExactMachineOkWrong)

/-- 'laws.FnExactMachineNot': WHATEVER THE INPUT: true; the input reads as it did. -/
def fnExactMachineNotSpec : ChangeSpec := { name := "fnExactMachineNot", fn := fun _ => fun
  | [d] => { results := [.lit (.bool true)], args := [d] }
  | _ => none }
def fnExactMachineNotRow : OpenClaim := { program := "ytieplhemmfibiaa", sum := "3a4c82ac4e9439b7f0e400702dea9f15afaf9ed6b83ebdf5b291669a5b5b4636", func := "loop.example/quantifiers/laws.FnExactMachineNot", spec := "fnExactMachineNot", apart := false }
def FnExactMachineNotSaid : Prop := fnExactMachineNotRow.holds Try.pinned (OpenSpec.ofChange fnExactMachineNotSpec)

/-- ITS FALSE NEIGHBOUR: 'it returns false'. Refute it at one input. -/
def fnExactMachineNotWrong : ChangeSpec := { name := "fnExactMachineNot", fn := fun _ => fun
  | [d] => { results := [.lit (.bool false)], args := [d] }
  | _ => none }
def FnExactMachineNotWrongFalsely : Prop := fnExactMachineNotRow.holds Try.pinned (OpenSpec.ofChange fnExactMachineNotWrong)

/-- 'laws.FnExactAnyOrder': WHATEVER THE INPUT: true; the input reads as it did. -/
def fnExactAnyOrderSpec : ChangeSpec := { name := "fnExactAnyOrder", fn := fun _ => fun
  | [d] => { results := [.lit (.bool true)], args := [d] }
  | _ => none }
def fnExactAnyOrderRow : OpenClaim := { program := "ytieplhemmfibiaa", sum := "3a4c82ac4e9439b7f0e400702dea9f15afaf9ed6b83ebdf5b291669a5b5b4636", func := "loop.example/quantifiers/laws.FnExactAnyOrder", spec := "fnExactAnyOrder", unfollowed := true, recurses := true, apart := false }
def FnExactAnyOrderSaid : Prop := fnExactAnyOrderRow.holds Try.pinned (OpenSpec.ofChange fnExactAnyOrderSpec)

/-- ITS FALSE NEIGHBOUR: 'it returns false'. Refute it at one input. -/
def fnExactAnyOrderWrong : ChangeSpec := { name := "fnExactAnyOrder", fn := fun _ => fun
  | [d] => { results := [.lit (.bool false)], args := [d] }
  | _ => none }
def FnExactAnyOrderWrongFalsely : Prop := fnExactAnyOrderRow.holds Try.pinned (OpenSpec.ofChange fnExactAnyOrderWrong)

/-- 'laws.FnExactNamedMachine': WHATEVER THE INPUT: true; the input reads as it did. -/
def fnExactNamedMachineSpec : ChangeSpec := { name := "fnExactNamedMachine", fn := fun _ => fun
  | [d] => { results := [.lit (.bool true)], args := [d] }
  | _ => none }
def fnExactNamedMachineRow : OpenClaim := { program := "ytieplhemmfibiaa", sum := "3a4c82ac4e9439b7f0e400702dea9f15afaf9ed6b83ebdf5b291669a5b5b4636", func := "loop.example/quantifiers/laws.FnExactNamedMachine", spec := "fnExactNamedMachine", recurses := true, apart := false }
def FnExactNamedMachineSaid : Prop := fnExactNamedMachineRow.holds Try.pinned (OpenSpec.ofChange fnExactNamedMachineSpec)

/-- ITS FALSE NEIGHBOUR: 'it returns false'. Refute it at one input. -/
def fnExactNamedMachineWrong : ChangeSpec := { name := "fnExactNamedMachine", fn := fun _ => fun
  | [d] => { results := [.lit (.bool false)], args := [d] }
  | _ => none }
def FnExactNamedMachineWrongFalsely : Prop := fnExactNamedMachineRow.holds Try.pinned (OpenSpec.ofChange fnExactNamedMachineWrong)

/-- 'laws.FnExactMachineBoth': WHATEVER THE INPUT: true; the input reads as it did. -/
def fnExactMachineBothSpec : ChangeSpec := { name := "fnExactMachineBoth", fn := fun _ => fun
  | [d1, d2] => { results := [.lit (.bool true)], args := [d1, d2] }
  | _ => none }
def fnExactMachineBothRow : OpenClaim := { program := "ytieplhemmfibiaa", sum := "3a4c82ac4e9439b7f0e400702dea9f15afaf9ed6b83ebdf5b291669a5b5b4636", func := "loop.example/quantifiers/laws.FnExactMachineBoth", spec := "fnExactMachineBoth", apart := false }
def FnExactMachineBothSaid : Prop := fnExactMachineBothRow.holds Try.pinned (OpenSpec.ofChange fnExactMachineBothSpec)

/-- ITS FALSE NEIGHBOUR: 'it returns false'. Refute it at one input. -/
def fnExactMachineBothWrong : ChangeSpec := { name := "fnExactMachineBoth", fn := fun _ => fun
  | [d1, d2] => { results := [.lit (.bool false)], args := [d1, d2] }
  | _ => none }
def FnExactMachineBothWrongFalsely : Prop := fnExactMachineBothRow.holds Try.pinned (OpenSpec.ofChange fnExactMachineBothWrong)

/-- 'laws.FnMachineOk': WHATEVER THE INPUT: true; the input reads as it did. -/
def fnMachineOkSpec : ChangeSpec := { name := "fnMachineOk", fn := fun _ => fun
  | [d] => { results := [.lit (.bool true)], args := [d] }
  | _ => none }
def fnMachineOkRow : OpenClaim := { program := "ytieplhemmfibiaa", sum := "3a4c82ac4e9439b7f0e400702dea9f15afaf9ed6b83ebdf5b291669a5b5b4636", func := "loop.example/quantifiers/laws.FnMachineOk", spec := "fnMachineOk", recurses := true, apart := false }
def FnMachineOkSaid : Prop := fnMachineOkRow.holds Try.pinned (OpenSpec.ofChange fnMachineOkSpec)

/-- ITS FALSE NEIGHBOUR: 'it returns false'. Refute it at one input. -/
def fnMachineOkWrong : ChangeSpec := { name := "fnMachineOk", fn := fun _ => fun
  | [d] => { results := [.lit (.bool false)], args := [d] }
  | _ => none }
def FnMachineOkWrongFalsely : Prop := fnMachineOkRow.holds Try.pinned (OpenSpec.ofChange fnMachineOkWrong)

/-- 'laws.FnExactNoCircle': WHATEVER THE INPUT: true; the input reads as it did. -/
def fnExactNoCircleSpec : ChangeSpec := { name := "fnExactNoCircle", fn := fun _ => fun
  | [d] => { results := [.lit (.bool true)], args := [d] }
  | _ => none }
def fnExactNoCircleRow : OpenClaim := { program := "ytieplhemmfibiaa", sum := "3a4c82ac4e9439b7f0e400702dea9f15afaf9ed6b83ebdf5b291669a5b5b4636", func := "loop.example/quantifiers/laws.FnExactNoCircle", spec := "fnExactNoCircle", apart := false }
def FnExactNoCircleSaid : Prop := fnExactNoCircleRow.holds Try.pinned (OpenSpec.ofChange fnExactNoCircleSpec)

/-- ITS FALSE NEIGHBOUR: 'it returns false'. Refute it at one input. -/
def fnExactNoCircleWrong : ChangeSpec := { name := "fnExactNoCircle", fn := fun _ => fun
  | [d] => { results := [.lit (.bool false)], args := [d] }
  | _ => none }
def FnExactNoCircleWrongFalsely : Prop := fnExactNoCircleRow.holds Try.pinned (OpenSpec.ofChange fnExactNoCircleWrong)

/-- 'laws.FnMachineNot': WHATEVER THE INPUT: true; the input reads as it did. -/
def fnMachineNotSpec : ChangeSpec := { name := "fnMachineNot", fn := fun _ => fun
  | [d] => { results := [.lit (.bool true)], args := [d] }
  | _ => none }
def fnMachineNotRow : OpenClaim := { program := "ytieplhemmfibiaa", sum := "3a4c82ac4e9439b7f0e400702dea9f15afaf9ed6b83ebdf5b291669a5b5b4636", func := "loop.example/quantifiers/laws.FnMachineNot", spec := "fnMachineNot", recurses := true, apart := false }
def FnMachineNotSaid : Prop := fnMachineNotRow.holds Try.pinned (OpenSpec.ofChange fnMachineNotSpec)

/-- ITS FALSE NEIGHBOUR: 'it returns false'. Refute it at one input. -/
def fnMachineNotWrong : ChangeSpec := { name := "fnMachineNot", fn := fun _ => fun
  | [d] => { results := [.lit (.bool false)], args := [d] }
  | _ => none }
def FnMachineNotWrongFalsely : Prop := fnMachineNotRow.holds Try.pinned (OpenSpec.ofChange fnMachineNotWrong)

/-- 'laws.FnAnyOrder': WHATEVER THE INPUT: true; the input reads as it did. -/
def fnAnyOrderSpec : ChangeSpec := { name := "fnAnyOrder", fn := fun _ => fun
  | [d] => { results := [.lit (.bool true)], args := [d] }
  | _ => none }
def fnAnyOrderRow : OpenClaim := { program := "ytieplhemmfibiaa", sum := "3a4c82ac4e9439b7f0e400702dea9f15afaf9ed6b83ebdf5b291669a5b5b4636", func := "loop.example/quantifiers/laws.FnAnyOrder", spec := "fnAnyOrder", unfollowed := true, recurses := true, apart := false }
def FnAnyOrderSaid : Prop := fnAnyOrderRow.holds Try.pinned (OpenSpec.ofChange fnAnyOrderSpec)

/-- ITS FALSE NEIGHBOUR: 'it returns false'. Refute it at one input. -/
def fnAnyOrderWrong : ChangeSpec := { name := "fnAnyOrder", fn := fun _ => fun
  | [d] => { results := [.lit (.bool false)], args := [d] }
  | _ => none }
def FnAnyOrderWrongFalsely : Prop := fnAnyOrderRow.holds Try.pinned (OpenSpec.ofChange fnAnyOrderWrong)

/-- 'laws.FnExactTriangleOf': WHATEVER THE INPUT: true; the input reads as it did. -/
def fnExactTriangleOfSpec : ChangeSpec := { name := "fnExactTriangleOf", fn := fun _ => fun
  | [d] => { results := [.lit (.bool true)], args := [d] }
  | _ => none }
def fnExactTriangleOfRow : OpenClaim := { program := "ytieplhemmfibiaa", sum := "3a4c82ac4e9439b7f0e400702dea9f15afaf9ed6b83ebdf5b291669a5b5b4636", func := "loop.example/quantifiers/laws.FnExactTriangleOf", spec := "fnExactTriangleOf", inPlace := ["internal/abi.NoEscape", "internal/bytealg.MakeNoZero"], unfollowed := true, recurses := true, apart := false }
def FnExactTriangleOfSaid : Prop := fnExactTriangleOfRow.holds Try.pinned (OpenSpec.ofChange fnExactTriangleOfSpec)

/-- ITS FALSE NEIGHBOUR: 'it returns false'. Refute it at one input. -/
def fnExactTriangleOfWrong : ChangeSpec := { name := "fnExactTriangleOf", fn := fun _ => fun
  | [d] => { results := [.lit (.bool false)], args := [d] }
  | _ => none }
def FnExactTriangleOfWrongFalsely : Prop := fnExactTriangleOfRow.holds Try.pinned (OpenSpec.ofChange fnExactTriangleOfWrong)

/-- 'laws.FnNamedMachine': WHATEVER THE INPUT: true; the input reads as it did. -/
def fnNamedMachineSpec : ChangeSpec := { name := "fnNamedMachine", fn := fun _ => fun
  | [d] => { results := [.lit (.bool true)], args := [d] }
  | _ => none }
def fnNamedMachineRow : OpenClaim := { program := "ytieplhemmfibiaa", sum := "3a4c82ac4e9439b7f0e400702dea9f15afaf9ed6b83ebdf5b291669a5b5b4636", func := "loop.example/quantifiers/laws.FnNamedMachine", spec := "fnNamedMachine", inPlace := ["internal/abi.NoEscape", "internal/bytealg.MakeNoZero"], unfollowed := true, recurses := true, apart := false }
def FnNamedMachineSaid : Prop := fnNamedMachineRow.holds Try.pinned (OpenSpec.ofChange fnNamedMachineSpec)

/-- ITS FALSE NEIGHBOUR: 'it returns false'. Refute it at one input. -/
def fnNamedMachineWrong : ChangeSpec := { name := "fnNamedMachine", fn := fun _ => fun
  | [d] => { results := [.lit (.bool false)], args := [d] }
  | _ => none }
def FnNamedMachineWrongFalsely : Prop := fnNamedMachineRow.holds Try.pinned (OpenSpec.ofChange fnNamedMachineWrong)

/-- 'laws.FnTriangleOf': WHATEVER THE INPUT: true; the input reads as it did. -/
def fnTriangleOfSpec : ChangeSpec := { name := "fnTriangleOf", fn := fun _ => fun
  | [d] => { results := [.lit (.bool true)], args := [d] }
  | _ => none }
def fnTriangleOfRow : OpenClaim := { program := "ytieplhemmfibiaa", sum := "3a4c82ac4e9439b7f0e400702dea9f15afaf9ed6b83ebdf5b291669a5b5b4636", func := "loop.example/quantifiers/laws.FnTriangleOf", spec := "fnTriangleOf", inPlace := ["internal/abi.NoEscape", "internal/bytealg.MakeNoZero"], unfollowed := true, recurses := true, apart := false }
def FnTriangleOfSaid : Prop := fnTriangleOfRow.holds Try.pinned (OpenSpec.ofChange fnTriangleOfSpec)

/-- ITS FALSE NEIGHBOUR: 'it returns false'. Refute it at one input. -/
def fnTriangleOfWrong : ChangeSpec := { name := "fnTriangleOf", fn := fun _ => fun
  | [d] => { results := [.lit (.bool false)], args := [d] }
  | _ => none }
def FnTriangleOfWrongFalsely : Prop := fnTriangleOfRow.holds Try.pinned (OpenSpec.ofChange fnTriangleOfWrong)

/-- 'laws.FnSplitOf': WHATEVER THE INPUT: true; the input reads as it did. -/
def fnSplitOfSpec : ChangeSpec := { name := "fnSplitOf", fn := fun _ => fun
  | [d] => { results := [.lit (.bool true)], args := [d] }
  | _ => none }
def fnSplitOfRow : OpenClaim := { program := "ytieplhemmfibiaa", sum := "3a4c82ac4e9439b7f0e400702dea9f15afaf9ed6b83ebdf5b291669a5b5b4636", func := "loop.example/quantifiers/laws.FnSplitOf", spec := "fnSplitOf", unfollowed := true, recurses := true, apart := false }
def FnSplitOfSaid : Prop := fnSplitOfRow.holds Try.pinned (OpenSpec.ofChange fnSplitOfSpec)

/-- ITS FALSE NEIGHBOUR: 'it returns false'. Refute it at one input. -/
def fnSplitOfWrong : ChangeSpec := { name := "fnSplitOf", fn := fun _ => fun
  | [d] => { results := [.lit (.bool false)], args := [d] }
  | _ => none }
def FnSplitOfWrongFalsely : Prop := fnSplitOfRow.holds Try.pinned (OpenSpec.ofChange fnSplitOfWrong)

/-- 'laws.FnFewerAre': WHATEVER THE INPUT: true; the input reads as it did. -/
def fnFewerAreSpec : ChangeSpec := { name := "fnFewerAre", fn := fun _ => fun
  | [d] => { results := [.lit (.bool true)], args := [d] }
  | _ => none }
def fnFewerAreRow : OpenClaim := { program := "ytieplhemmfibiaa", sum := "3a4c82ac4e9439b7f0e400702dea9f15afaf9ed6b83ebdf5b291669a5b5b4636", func := "loop.example/quantifiers/laws.FnFewerAre", spec := "fnFewerAre", unfollowed := true, recurses := true, apart := false }
def FnFewerAreSaid : Prop := fnFewerAreRow.holds Try.pinned (OpenSpec.ofChange fnFewerAreSpec)

/-- ITS FALSE NEIGHBOUR: 'it returns false'. Refute it at one input. -/
def fnFewerAreWrong : ChangeSpec := { name := "fnFewerAre", fn := fun _ => fun
  | [d] => { results := [.lit (.bool false)], args := [d] }
  | _ => none }
def FnFewerAreWrongFalsely : Prop := fnFewerAreRow.holds Try.pinned (OpenSpec.ofChange fnFewerAreWrong)

/- THE SECOND FORM. 'bulk': how many values and letters a reading holds, each counted each time it is reached (what is shared counts as often as it is met; a slice's spare places count too). A statement '..UptoSaid' is the law's where the arguments, and the package variables that the reading takes, are together of bulk at most 1048576: NARROWER than '..Said'. Prove '..Said' where nothing that the law and all that it calls make is longer than what came in: it says more and counts as full. Else prove '..UptoSaid'. A law counts once. -/
mutual
def uptoBulk {H : Type} : DataW H → Nat
  | .lit (.string bytes) => bytes.length + 1
  | .lit _ => 1
  | .nil => 1
  | .ptr d => uptoBulk d + 1
  | .slice elems spare => uptoBulkAll elems + uptoBulkAll spare + 1
  | .agg parts => uptoBulkAll parts + 1
  | .iface _ d => uptoBulk d + 1
  | .map entries => uptoBulkEntries entries + 1
  | .held _ => 1
def uptoBulkAll {H : Type} : List (DataW H) → Nat
  | [] => 0
  | d :: r => uptoBulk d + uptoBulkAll r
def uptoBulkEntries {H : Type} : List (Lit × DataW H) → Nat
  | [] => 0
  | x :: r => uptoBulkEntry x + uptoBulkEntries r
def uptoBulkEntry {H : Type} : Lit × DataW H → Nat
  | (.string bytes, d) => bytes.length + uptoBulk d + 1
  | (_, d) => uptoBulk d + 1
 end
def uptoSmall : (H : Type) → List (DataW H) → Bool := fun _ ds => decide (uptoBulkAll ds ≤ 1048576)
def OpenSpec.upto (s : _root_.Go.ChangeSpec) : _root_.Go.OpenSpec := { _root_.Go.OpenSpec.ofChange s with cond := some uptoSmall }

/-- 'laws.FnExactMachineOk', WHERE WHAT IT READS IS OF BULK AT MOST 1048576: true; the input reads as it did. -/
def fnExactMachineOkUptoRow : OpenClaim := { program := "ytieplhemmfibiaa", sum := "3a4c82ac4e9439b7f0e400702dea9f15afaf9ed6b83ebdf5b291669a5b5b4636", func := "loop.example/quantifiers/laws.FnExactMachineOk", spec := "fnExactMachineOk", apart := false, narrowed := true }
def FnExactMachineOkUptoSaid : Prop := fnExactMachineOkUptoRow.holds Try.pinned (OpenSpec.upto fnExactMachineOkSpec)

/-- 'laws.FnExactMachineNot', WHERE WHAT IT READS IS OF BULK AT MOST 1048576: true; the input reads as it did. -/
def fnExactMachineNotUptoRow : OpenClaim := { program := "ytieplhemmfibiaa", sum := "3a4c82ac4e9439b7f0e400702dea9f15afaf9ed6b83ebdf5b291669a5b5b4636", func := "loop.example/quantifiers/laws.FnExactMachineNot", spec := "fnExactMachineNot", apart := false, narrowed := true }
def FnExactMachineNotUptoSaid : Prop := fnExactMachineNotUptoRow.holds Try.pinned (OpenSpec.upto fnExactMachineNotSpec)

/-- 'laws.FnExactAnyOrder', WHERE WHAT IT READS IS OF BULK AT MOST 1048576: true; the input reads as it did. -/
def fnExactAnyOrderUptoRow : OpenClaim := { program := "ytieplhemmfibiaa", sum := "3a4c82ac4e9439b7f0e400702dea9f15afaf9ed6b83ebdf5b291669a5b5b4636", func := "loop.example/quantifiers/laws.FnExactAnyOrder", spec := "fnExactAnyOrder", unfollowed := true, recurses := true, apart := false, narrowed := true }
def FnExactAnyOrderUptoSaid : Prop := fnExactAnyOrderUptoRow.holds Try.pinned (OpenSpec.upto fnExactAnyOrderSpec)

/-- 'laws.FnExactNamedMachine', WHERE WHAT IT READS IS OF BULK AT MOST 1048576: true; the input reads as it did. -/
def fnExactNamedMachineUptoRow : OpenClaim := { program := "ytieplhemmfibiaa", sum := "3a4c82ac4e9439b7f0e400702dea9f15afaf9ed6b83ebdf5b291669a5b5b4636", func := "loop.example/quantifiers/laws.FnExactNamedMachine", spec := "fnExactNamedMachine", recurses := true, apart := false, narrowed := true }
def FnExactNamedMachineUptoSaid : Prop := fnExactNamedMachineUptoRow.holds Try.pinned (OpenSpec.upto fnExactNamedMachineSpec)

/-- 'laws.FnExactMachineBoth', WHERE WHAT IT READS IS OF BULK AT MOST 1048576: true; the input reads as it did. -/
def fnExactMachineBothUptoRow : OpenClaim := { program := "ytieplhemmfibiaa", sum := "3a4c82ac4e9439b7f0e400702dea9f15afaf9ed6b83ebdf5b291669a5b5b4636", func := "loop.example/quantifiers/laws.FnExactMachineBoth", spec := "fnExactMachineBoth", apart := false, narrowed := true }
def FnExactMachineBothUptoSaid : Prop := fnExactMachineBothUptoRow.holds Try.pinned (OpenSpec.upto fnExactMachineBothSpec)

/-- 'laws.FnMachineOk', WHERE WHAT IT READS IS OF BULK AT MOST 1048576: true; the input reads as it did. -/
def fnMachineOkUptoRow : OpenClaim := { program := "ytieplhemmfibiaa", sum := "3a4c82ac4e9439b7f0e400702dea9f15afaf9ed6b83ebdf5b291669a5b5b4636", func := "loop.example/quantifiers/laws.FnMachineOk", spec := "fnMachineOk", recurses := true, apart := false, narrowed := true }
def FnMachineOkUptoSaid : Prop := fnMachineOkUptoRow.holds Try.pinned (OpenSpec.upto fnMachineOkSpec)

/-- 'laws.FnExactNoCircle', WHERE WHAT IT READS IS OF BULK AT MOST 1048576: true; the input reads as it did. -/
def fnExactNoCircleUptoRow : OpenClaim := { program := "ytieplhemmfibiaa", sum := "3a4c82ac4e9439b7f0e400702dea9f15afaf9ed6b83ebdf5b291669a5b5b4636", func := "loop.example/quantifiers/laws.FnExactNoCircle", spec := "fnExactNoCircle", apart := false, narrowed := true }
def FnExactNoCircleUptoSaid : Prop := fnExactNoCircleUptoRow.holds Try.pinned (OpenSpec.upto fnExactNoCircleSpec)

/-- 'laws.FnMachineNot', WHERE WHAT IT READS IS OF BULK AT MOST 1048576: true; the input reads as it did. -/
def fnMachineNotUptoRow : OpenClaim := { program := "ytieplhemmfibiaa", sum := "3a4c82ac4e9439b7f0e400702dea9f15afaf9ed6b83ebdf5b291669a5b5b4636", func := "loop.example/quantifiers/laws.FnMachineNot", spec := "fnMachineNot", recurses := true, apart := false, narrowed := true }
def FnMachineNotUptoSaid : Prop := fnMachineNotUptoRow.holds Try.pinned (OpenSpec.upto fnMachineNotSpec)

/-- 'laws.FnAnyOrder', WHERE WHAT IT READS IS OF BULK AT MOST 1048576: true; the input reads as it did. -/
def fnAnyOrderUptoRow : OpenClaim := { program := "ytieplhemmfibiaa", sum := "3a4c82ac4e9439b7f0e400702dea9f15afaf9ed6b83ebdf5b291669a5b5b4636", func := "loop.example/quantifiers/laws.FnAnyOrder", spec := "fnAnyOrder", unfollowed := true, recurses := true, apart := false, narrowed := true }
def FnAnyOrderUptoSaid : Prop := fnAnyOrderUptoRow.holds Try.pinned (OpenSpec.upto fnAnyOrderSpec)

/-- 'laws.FnExactTriangleOf', WHERE WHAT IT READS IS OF BULK AT MOST 1048576: true; the input reads as it did. -/
def fnExactTriangleOfUptoRow : OpenClaim := { program := "ytieplhemmfibiaa", sum := "3a4c82ac4e9439b7f0e400702dea9f15afaf9ed6b83ebdf5b291669a5b5b4636", func := "loop.example/quantifiers/laws.FnExactTriangleOf", spec := "fnExactTriangleOf", inPlace := ["internal/abi.NoEscape", "internal/bytealg.MakeNoZero"], unfollowed := true, recurses := true, apart := false, narrowed := true }
def FnExactTriangleOfUptoSaid : Prop := fnExactTriangleOfUptoRow.holds Try.pinned (OpenSpec.upto fnExactTriangleOfSpec)

/-- 'laws.FnNamedMachine', WHERE WHAT IT READS IS OF BULK AT MOST 1048576: true; the input reads as it did. -/
def fnNamedMachineUptoRow : OpenClaim := { program := "ytieplhemmfibiaa", sum := "3a4c82ac4e9439b7f0e400702dea9f15afaf9ed6b83ebdf5b291669a5b5b4636", func := "loop.example/quantifiers/laws.FnNamedMachine", spec := "fnNamedMachine", inPlace := ["internal/abi.NoEscape", "internal/bytealg.MakeNoZero"], unfollowed := true, recurses := true, apart := false, narrowed := true }
def FnNamedMachineUptoSaid : Prop := fnNamedMachineUptoRow.holds Try.pinned (OpenSpec.upto fnNamedMachineSpec)

/-- 'laws.FnTriangleOf', WHERE WHAT IT READS IS OF BULK AT MOST 1048576: true; the input reads as it did. -/
def fnTriangleOfUptoRow : OpenClaim := { program := "ytieplhemmfibiaa", sum := "3a4c82ac4e9439b7f0e400702dea9f15afaf9ed6b83ebdf5b291669a5b5b4636", func := "loop.example/quantifiers/laws.FnTriangleOf", spec := "fnTriangleOf", inPlace := ["internal/abi.NoEscape", "internal/bytealg.MakeNoZero"], unfollowed := true, recurses := true, apart := false, narrowed := true }
def FnTriangleOfUptoSaid : Prop := fnTriangleOfUptoRow.holds Try.pinned (OpenSpec.upto fnTriangleOfSpec)

/-- 'laws.FnSplitOf', WHERE WHAT IT READS IS OF BULK AT MOST 1048576: true; the input reads as it did. -/
def fnSplitOfUptoRow : OpenClaim := { program := "ytieplhemmfibiaa", sum := "3a4c82ac4e9439b7f0e400702dea9f15afaf9ed6b83ebdf5b291669a5b5b4636", func := "loop.example/quantifiers/laws.FnSplitOf", spec := "fnSplitOf", unfollowed := true, recurses := true, apart := false, narrowed := true }
def FnSplitOfUptoSaid : Prop := fnSplitOfUptoRow.holds Try.pinned (OpenSpec.upto fnSplitOfSpec)

/-- 'laws.FnFewerAre', WHERE WHAT IT READS IS OF BULK AT MOST 1048576: true; the input reads as it did. -/
def fnFewerAreUptoRow : OpenClaim := { program := "ytieplhemmfibiaa", sum := "3a4c82ac4e9439b7f0e400702dea9f15afaf9ed6b83ebdf5b291669a5b5b4636", func := "loop.example/quantifiers/laws.FnFewerAre", spec := "fnFewerAre", unfollowed := true, recurses := true, apart := false, narrowed := true }
def FnFewerAreUptoSaid : Prop := fnFewerAreUptoRow.holds Try.pinned (OpenSpec.upto fnFewerAreSpec)

end Rows
end Go.Proofs.Ytieplhemmfibiaa
