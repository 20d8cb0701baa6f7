import Derived.Test.YthblnnboeikgcaaYAgreeTells45
import Derived.Test.YthblnnboeikgcaaYAgreeTells31
import Derived.Test.YthblnnboeikgcaaYAgreeTells25
import Derived.Test.YthblnnboeikgcaaYAgreeTells29
import Derived.Test.YthblnnboeikgcaaYAgreeTells28
import Derived.Test.YthblnnboeikgcaaYAgreeTells30
import Derived.Test.YthblnnboeikgcaaYAgreeTells32
import Derived.Test.YthblnnboeikgcaaYAgreeTells11
import Derived.Test.YthblnnboeikgcaaYAgreeTells37
import Derived.Test.YthblnnboeikgcaaYAgreeTells38
section
set_option linter.unusedVariables false
set_option linter.unusedSimpArgs false
set_option linter.unusedSectionVars false
namespace Go.Proofs.Ythblnnboeikgcaa.TallyLib
open Go.RowKit Go.Proofs.Ythblnnboeikgcaa.X Go.Proofs.YthblnnboeikgcaaW.PrintWords Go.Proofs.YthblnnboeikgcaaW.PrintMore Go.Proofs.Ythblnnboeikgcaa.ConfLib
def C (v : Int) (l : List Int) : Int := if v < 0 ∨ 3 ≤ v then 0 else (l.count v : Nat)
section
variable (n f d p r dr o s m fr : Int) (t : List Int)
def Q : Int := if plain n f d p r dr o s m fr t = 0 then n - f else 0
def S : Int := if plain n f d p r dr o s m fr t = 0 then f + 1 else 0
def E (v : Int) (l : List Int) : Bool := decide (plain n f d p r dr o s m fr t = 0 ∧ n - f ≤ C v l)
def M (l : List Int) : Int := if plain n f d p r dr o s m fr t = 0 then (if n - f ≤ C 1 l then 1 else if n - f ≤ C 0 l then 0 else 2) else 2
def L (now : Int) (l : List Int) : Int := if plain n f d p r dr o s m fr t = 0 then (if f + 1 ≤ C 0 l then 0 else if f + 1 ≤ C 1 l then 1 else if f + 1 ≤ C 2 l then 2 else now) else now
end
end Go.Proofs.Ythblnnboeikgcaa.TallyLib
end
section
namespace Go.Proofs.Ythblnnboeikgcaa.X
open Go.RowKit Go.Proofs.YthblnnboeikgcaaW.PrintWords Go.Proofs.YthblnnboeikgcaaW.PrintLast Go.Proofs.YthblnnboeikgcaaW.PrintMore
attribute [local go_sem] max2_int min2_int max_two min_two max_three min_three max_four min_four   -- for this text's walks alone
set_option linter.unusedVariables false
set_option linter.unusedSimpArgs false
def bellwetherref13_Enough.T1 : Bool × List (List Nat × List Nat) := (true, [([], []), ([0], [0]), ([1], [1]), ([2, 1], [2]), ([3], [3]), ([3], [3]), ([4, 5, 3, 3], [3, 4, 5]), ([3], [3]), ([7, 3], [3, 7]), ([3], [3]), ([9, 3], [3, 9]), ([8, 10, 3], [3, 8, 10]), ([6, 11, 3], [3, 6, 11]), ([3, 12], [3, 12]), ([13, 6, 0, 1, 2, 3, 4, 5, 6, 7, 8, 9, 10, 11, 12, 13], [13])])
def bellwetherref13_Enough.B1 : List Nat := [0, 1, 3, 7, 15, 15, 63, 15, 143, 15, 527, 1935, 4095, 8191, 16383]
theorem bellwetherref13_Enough.tab1 : rtab .any (opsOf Try.f97 1) = bellwetherref13_Enough.T1 := by kernel_rfl
theorem bellwetherref13_Enough.bits1 : waitsOk bellwetherref13_Enough.T1.2 bellwetherref13_Enough.B1 = true := by kernel_rfl
end Go.Proofs.Ythblnnboeikgcaa.X
end
section
set_option linter.unusedVariables false
set_option linter.unusedSimpArgs false
set_option linter.unusedSectionVars false
namespace Go.Proofs.Ythblnnboeikgcaa.TallyLib
open Go.RowKit Go.Proofs.Ythblnnboeikgcaa.X Go.Proofs.YthblnnboeikgcaaW.PrintWords Go.Proofs.YthblnnboeikgcaaW.PrintMore Go.Proofs.Ythblnnboeikgcaa.ConfLib
theorem C_nil (v : Int) : C v [] = 0 := by
  unfold C
  split <;> rfl
section
variable (n f d p r dr o s m fr : Int) (t : List Int)
end
end Go.Proofs.Ythblnnboeikgcaa.TallyLib
end
