import Derived.Test.YtfannnojhkkaiaaYVecAgrees48
import Derived.Test.YtfannnojhkkaiaaYVecAgrees35
import Derived.Test.YtfannnojhkkaiaaYVecAgrees11
import Derived.Test.YtfannnojhkkaiaaYVecAgrees34
import Derived.Test.YtfannnojhkkaiaaYVecAgrees37
set_option linter.unusedVariables false
set_option linter.unusedSimpArgs false
set_option linter.unusedSectionVars false
namespace Go.Proofs.Ytfannnojhkkaiaa.TallyLib
open Go.RowKit Go.Proofs.Ytfannnojhkkaiaa.V Go.Proofs.YtfannnojhkkaiaaW.PrintWords Go.Proofs.YtfannnojhkkaiaaW.PrintMore Go.Proofs.Ytfannnojhkkaiaa.ConfLib
theorem C_nil (v : Int) : C v [] = 0 := by
  unfold C
  split <;> rfl
section
variable (n f d p r dr o s m fr : Int) (t : List Int)
end
end Go.Proofs.Ytfannnojhkkaiaa.TallyLib
