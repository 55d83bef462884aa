/- Things of a sort of a term: both programs' test, in plain words; for eight sorts and six terms. -/
import Derived.KernelRfl
import Derived.Test.YthnmllkhlinnaaaSemBase
import Derived.Test.YthnmllkhlinnaaaPAx22
import Derived.Test.YthnmllkhlinnaaaPAx25
namespace Go.Proofs.Ythnmllkhlinnaaa.Sem
open Go.RowKit Go.Proofs.Ythnmllkhlinnaaa.PA Go.Proofs.YthnmllkhlinnaaaW.PrintWords Go.Proofs.YthnmllkhlinnaaaW.PrintLast Go.Proofs.YthnmllkhlinnaaaW.PrintMore
set_option linter.unusedVariables false
set_option linter.unusedSimpArgs false

/-- Are things of a sort of a term? -/
def isB (s t : Nat) : Bool := (s / 2 ^ (t / 2)) % 2 != t % 2
theorem specIs_all : ((List.range 8).all fun s => (List.range 6).all fun t => decide (spec_l5Is.f s t = some (isB s t))) = true := by kernel_rfl
theorem implIs_all : ((List.range 8).all fun s => (List.range 6).all fun t => decide (impl_isOf.f s t = some (isB s t))) = true := by kernel_rfl
theorem specIs (s t : Nat) (hs : s < 8) (ht : t < 6) : spec_l5Is.f s t = some (isB s t) := of_decide_eq_true (List.all_eq_true.1 (List.all_eq_true.1 specIs_all s (List.mem_range.2 hs)) t (List.mem_range.2 ht))
theorem implIs (s t : Nat) (hs : s < 8) (ht : t < 6) : impl_isOf.f s t = some (isB s t) := of_decide_eq_true (List.all_eq_true.1 (List.all_eq_true.1 implIs_all s (List.mem_range.2 hs)) t (List.mem_range.2 ht))

end Go.Proofs.Ythnmllkhlinnaaa.Sem
