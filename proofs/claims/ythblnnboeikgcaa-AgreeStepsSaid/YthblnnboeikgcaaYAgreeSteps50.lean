import Derived.Test.YthblnnboeikgcaaYAgreeSteps49
import Derived.Test.YthblnnboeikgcaaYAgreeSteps20
import Derived.Test.YthblnnboeikgcaaYAgreeSteps9
import Derived.Test.YthblnnboeikgcaaYAgreeSteps33
import Derived.Test.YthblnnboeikgcaaYAgreeSteps34
import Derived.Test.YthblnnboeikgcaaYAgreeSteps35
set_option linter.unusedVariables false
set_option linter.unusedSimpArgs false
set_option linter.unusedSectionVars false
namespace Go.Proofs.Ythblnnboeikgcaa.VecLib
open Go.RowKit Go.Proofs.Ythblnnboeikgcaa.X Go.Proofs.YthblnnboeikgcaaW.PrintWords Go.Proofs.YthblnnboeikgcaaW.PrintMore Go.Proofs.Ythblnnboeikgcaa.ConfLib Go.Proofs.Ythblnnboeikgcaa.TallyLib Go.Proofs.Ythblnnboeikgcaa.KingLib
theorem set_at (b : Int) : vec_set.f b = some (bit b) := vec_Of_1.set_at b
end Go.Proofs.Ythblnnboeikgcaa.VecLib
