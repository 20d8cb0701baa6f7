import Derived.Test.YtbfnkdgjcpcmbaaYWireWrites29
namespace Go.Proofs.Ytbfnkdgjcpcmbaa.X
open Go.RowKit Go.Proofs.YtbfnkdgjcpcmbaaW.PrintWords Go.Proofs.YtbfnkdgjcpcmbaaW.PrintLast Go.Proofs.YtbfnkdgjcpcmbaaW.PrintMore
attribute [local go_sem] max2_int min2_int max_two min_two max_three min_three max_four min_four   -- for this text's walks alone
set_option linter.unusedVariables false
set_option linter.unusedSimpArgs false
def r02Open.T4 : Bool × List (List Nat × List Nat) := (true, [([], []), ([], []), ([0, 1], [0, 1]), ([], []), ([], []), ([3, 4], [3, 4]), ([5], [5]), ([2, 6], [2, 6])])
def r02Open.B4 : List Nat := [0, 0, 3, 0, 0, 24, 56, 127]
theorem r02Open.tab4 : rtab .any (opsOf Try.f57 4) = r02Open.T4 := by kernel_rfl
theorem r02Open.bits4 : waitsOk r02Open.T4.2 r02Open.B4 = true := by kernel_rfl
end Go.Proofs.Ytbfnkdgjcpcmbaa.X
