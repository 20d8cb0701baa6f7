import Derived.Test.YthblnnboeikgcaaYAgreeSteps9
import Derived.Test.YthblnnboeikgcaaYAgreeSteps33
import Derived.Test.YthblnnboeikgcaaYAgreeSteps34
namespace Go.Proofs.Ythblnnboeikgcaa.X
open Go.RowKit Go.Proofs.YthblnnboeikgcaaW.PrintWords Go.Proofs.YthblnnboeikgcaaW.PrintLast Go.Proofs.YthblnnboeikgcaaW.PrintMore
attribute [local go_sem] max2_int min2_int max_two min_two max_three min_three max_four min_four   -- for this text's walks alone
set_option linter.unusedVariables false
set_option linter.unusedSimpArgs false
def bellwetherref19_Begin.T3 : Bool × List (List Nat × List Nat) := (true, [([], []), ([0], [0]), ([], []), ([], []), ([3], [3]), ([2, 4, 1], [2, 4]), ([1, 5], [1, 5]), ([6, 5], [6]), ([7, 7, 0, 1, 2, 3, 4, 5, 6, 7], [7])])
def bellwetherref19_Begin.B3 : List Nat := [0, 1, 0, 0, 8, 31, 63, 127, 255]
theorem bellwetherref19_Begin.tab3 : rtab .any (opsOf Try.f19 3) = bellwetherref19_Begin.T3 := by kernel_rfl
theorem bellwetherref19_Begin.bits3 : waitsOk bellwetherref19_Begin.T3.2 bellwetherref19_Begin.B3 = true := by kernel_rfl
end Go.Proofs.Ythblnnboeikgcaa.X
