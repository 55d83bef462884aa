/- strings.Repeat of one letter, by the library's own contract; no condition but the count. -/
import Derived.Test.YtiplbleghaoehaaPAx0
import Derived.Ground.NamesProg
import Derived.Shelf.Strings.Repeat
namespace Go.Proofs
open Go.Shelf
def Ytiplbleghaoehaa.lays105_ren : Go.Shelf.Ren := ⟨fun | 105 => 31 | 212 => 53 | 99 => 54 | 165 => 55 | 166 => 56 | 170 => 57 | 169 => 58 | 263 => 68 | 264 => 69 | 206 => 70 | 240 => 71 | 241 => 72 | 276 => 75 | 277 => 76 | n => n, fun | 9 => 9 | 3 => 3 | 4 => 4 | 20 => 20 | 0 => 0 | 46 => 63 | 109 => 64 | 5 => 5 | 72 => 69 | 76 => 73 | 51 => 83 | 146 => 84 | 53 => 86 | 148 => 87 | 70 => 67 | 37 => 22 | 75 => 72 | 127 => 89 | 164 => 92 | 80 => 76 | n => n, fun | n => n⟩
theorem Ytiplbleghaoehaa.lays105 : Go.Proofs.Lays.n105 Try.prog Ytiplbleghaoehaa.lays105_ren := {
  mixed := by kernel_rfl
  f99 := Try.func54.trans (congrArg some (by kernel_rfl))
  f105 := Try.func31.trans (congrArg some (by kernel_rfl))
  f165 := Try.func55.trans (congrArg some (by kernel_rfl))
  f166 := Try.func56.trans (congrArg some (by kernel_rfl))
  f169 := Try.func58.trans (congrArg some (by kernel_rfl))
  f170 := Try.func57.trans (congrArg some (by kernel_rfl))
  f206 := Try.func70.trans (congrArg some (by kernel_rfl))
  f212 := Try.func53.trans (congrArg some (by kernel_rfl))
  f240 := Try.func71.trans (congrArg some (by kernel_rfl))
  f241 := Try.func72.trans (congrArg some (by kernel_rfl))
  f263 := Try.func68.trans (congrArg some (by kernel_rfl))
  f264 := Try.func69.trans (congrArg some (by kernel_rfl))
  f276 := Try.func75.trans (congrArg some (by kernel_rfl))
  f277 := Try.func76.trans (congrArg some (by kernel_rfl))
  t0 := Try.underlying0
  a0 := Try.isAgg0
  z0 := Try.sizeOf0
  v0 := Try.zeroValue0
  t3 := Try.underlying3
  a3 := Try.isAgg3
  z3 := Try.sizeOf3
  v3 := Try.zeroValue3
  t4 := Try.underlying4
  a4 := Try.isAgg4
  z4 := Try.sizeOf4
  v4 := Try.zeroValue4
  t5 := Try.underlying5
  a5 := Try.isAgg5
  z5 := Try.sizeOf5
  v5 := Try.zeroValue5
  t9 := Try.underlying9
  a9 := Try.isAgg9
  z9 := Try.sizeOf9
  v9 := Try.zeroValue9
  t20 := Try.underlying20
  a20 := Try.isAgg20
  z20 := Try.sizeOf20
  v20 := Try.zeroValue20
  t37 := Try.underlying22
  a37 := Try.isAgg22
  z37 := Try.sizeOf22
  v37 := Try.zeroValue22
  t46 := Try.underlying63
  a46 := Try.isAgg63
  z46 := Try.sizeOf63
  v46 := Try.zeroValue63
  t51 := Try.underlying83
  a51 := Try.isAgg83
  z51 := Try.sizeOf83
  v51 := Try.zeroValue83
  t53 := Try.underlying86
  a53 := Try.isAgg86
  z53 := Try.sizeOf86
  v53 := Try.zeroValue86
  t70 := Try.underlying67
  a70 := Try.isAgg67
  z70 := Try.sizeOf67
  v70 := Try.zeroValue67
  t72 := Try.underlying69
  a72 := Try.isAgg69
  z72 := Try.sizeOf69
  v72 := Try.zeroValue69
  t75 := Try.underlying72
  a75 := Try.isAgg72
  z75 := Try.sizeOf72
  v75 := Try.zeroValue72
  t76 := Try.underlying73
  a76 := Try.isAgg73
  z76 := Try.sizeOf73
  v76 := Try.zeroValue73
  t109 := Try.underlying64
  a109 := Try.isAgg64
  z109 := Try.sizeOf64
  v109 := Try.zeroValue64
  t127 := Try.underlying89
  a127 := Try.isAgg89
  z127 := Try.sizeOf89
  v127 := Try.zeroValue89
  t146 := Try.underlying84
  a146 := Try.isAgg84
  z146 := Try.sizeOf84
  v146 := Try.zeroValue84
  t148 := Try.underlying87
  a148 := Try.isAgg87
  z148 := Try.sizeOf87
  v148 := Try.zeroValue87
  t164 := Try.underlying92
  a164 := Try.isAgg92
  z164 := Try.sizeOf92
  v164 := Try.zeroValue92 }
theorem Ytiplbleghaoehaa.builder105 : Builder.Extra Try.prog Ytiplbleghaoehaa.lays105_ren where
  sizeBuilder := by kernel_rfl
  liesBuilder := by kernel_rfl
  t5 := Try.underlying5
  a5 := Try.isAgg5
  z5 := Try.sizeOf5
  v5 := Try.zeroValue5
  infoByte := by kernel_rfl
  cellsByte := by kernel_rfl
  sizeByte := by kernel_rfl
  neB5 := by decide
end Go.Proofs
namespace Go.Proofs.Ytiplbleghaoehaa.Man
open Go.RowKit Go.Proofs.Ytiplbleghaoehaa.PA Go.Proofs.YtiplbleghaoehaaW.PrintWords Go.Proofs.YtiplbleghaoehaaW.PrintLast
set_option linter.unusedVariables false
set_option linter.unusedSimpArgs false

/-- A row of one letter. -/
def rep (x : UInt8) (n : Nat) : ByteArray := ⟨(List.replicate n x).toArray⟩
theorem rep_size (x : UInt8) (n : Nat) : (rep x n).size = n := by
  show (List.replicate n x).toArray.size = n
  rw [List.size_toArray, List.length_replicate]
theorem repeat_one (x : UInt8) : ∀ n, Go.Lib.repeatL [x] n = List.replicate n x
  | 0 => rfl
  | n + 1 => by
    show [x] ++ Go.Lib.repeatL [x] n = _
    rw [repeat_one x n, List.replicate_succ]
    rfl
theorem repeats (x : UInt8) (n : Nat) (w : World) (hn : n ≤ 1000) : Calls Try.prog 31 #[.string (⟨#[x]⟩ : ByteArray), .int .i64 (n : Int)] w fun e w' => e = .returned (.string (rep x n)) ∧ Below w.heap.size w w' := by
  have h := Any.strings_Repeat Go.Proofs.Ytiplbleghaoehaa.lays105 Go.Proofs.Ytiplbleghaoehaa.builder105 (⟨#[x]⟩ : ByteArray) n w (by omega) (by rw [show (⟨#[x]⟩ : ByteArray).size = 1 from rfl]; omega)
  refine h.mono fun e w' ⟨he, hb⟩ => ⟨?_, hb⟩
  rw [he]
  show _ = Ending.returned (.string ⟨(List.replicate n x).toArray⟩)
  rw [← repeat_one x n]
end Go.Proofs.Ytiplbleghaoehaa.Man
