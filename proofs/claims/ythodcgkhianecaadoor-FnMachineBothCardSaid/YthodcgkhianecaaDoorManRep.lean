/- strings.Repeat of one letter, by the library's own contract; no condition but the count. -/
import Derived.Test.YthodcgkhianecaaDoorPAx0
import Derived.Ground.NamesProg
import Derived.Shelf.Lay
import Derived.Shelf.Strings.Repeat
namespace Go.Proofs
open Go.Shelf
shelf_lay Lays.n105 Nm 105 at Tryd as YthodcgkhianecaaDoor.lays105
theorem YthodcgkhianecaaDoor.builder105 : Builder.Extra Tryd.prog YthodcgkhianecaaDoor.lays105_ren where
  sizeBuilder := by kernel_rfl
  liesBuilder := by kernel_rfl
  t5 := Tryd.underlying5
  a5 := Tryd.isAgg5
  z5 := Tryd.sizeOf5
  v5 := Tryd.zeroValue5
  infoByte := by kernel_rfl
  cellsByte := by kernel_rfl
  sizeByte := by kernel_rfl
  neB5 := by decide
end Go.Proofs
namespace Go.Proofs.YthodcgkhianecaaDoor.Man
open Go.RowKit Go.Proofs.YthodcgkhianecaaDoor.PA Go.Proofs.YthodcgkhianecaaDoorW.PrintWords Go.Proofs.YthodcgkhianecaaDoorW.PrintLast
set_option linter.unusedVariables false
set_option linter.unusedSimpArgs false

/-- A row of one letter. -/
def rep (x : UInt8) (n : Nat) : ByteArray := ⟨(List.replicate n x).toArray⟩
theorem rep_size (x : UInt8) (n : Nat) : (rep x n).size = n := by
  show (List.replicate n x).toArray.size = n
  rw [List.size_toArray, List.length_replicate]
theorem repeat_one (x : UInt8) : ∀ n, Go.Lib.repeatL [x] n = List.replicate n x
  | 0 => rfl
  | n + 1 => by
    show [x] ++ Go.Lib.repeatL [x] n = _
    rw [repeat_one x n, List.replicate_succ]
    rfl
theorem repeats (x : UInt8) (n : Nat) (w : World) (hn : n ≤ 1000) : Calls Tryd.prog 31 #[.string (⟨#[x]⟩ : ByteArray), .int .i64 (n : Int)] w fun e w' => e = .returned (.string (rep x n)) ∧ Below w.heap.size w w' := by
  have h := Any.strings_Repeat Go.Proofs.YthodcgkhianecaaDoor.lays105 Go.Proofs.YthodcgkhianecaaDoor.builder105 (⟨#[x]⟩ : ByteArray) n w (by omega) (by rw [show (⟨#[x]⟩ : ByteArray).size = 1 from rfl]; omega)
  refine h.mono fun e w' ⟨he, hb⟩ => ⟨?_, hb⟩
  rw [he]
  show _ = Ending.returned (.string ⟨(List.replicate n x).toArray⟩)
  rw [← repeat_one x n]
end Go.Proofs.YthodcgkhianecaaDoor.Man
