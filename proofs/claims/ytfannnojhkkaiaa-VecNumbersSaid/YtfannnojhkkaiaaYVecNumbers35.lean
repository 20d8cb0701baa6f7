import Derived.Test.YtfannnojhkkaiaaYVecNumbers11
import Derived.Test.YtfannnojhkkaiaaYVecNumbers34
namespace Go.Proofs.Ytfannnojhkkaiaa.V
open Go.RowKit Go.Proofs.YtfannnojhkkaiaaW.PrintWords Go.Proofs.YtfannnojhkkaiaaW.PrintLast Go.Proofs.YtfannnojhkkaiaaW.PrintMore
attribute [local go_sem] max2_int min2_int max_two min_two max_three min_three max_four min_four   -- for this text's walks alone
set_option linter.unusedVariables false
set_option linter.unusedSimpArgs false
theorem bellwetherref16_Values.fld52_0 (v0 v1 : Value) (w : World) : (Instr.field 52 (.agg #[v0, v1]) 0).run Try.prog w = .ok (v0) w := by kernel_rfl
attribute [local go_sem] bellwetherref16_Values.fld52_0
end Go.Proofs.Ytfannnojhkkaiaa.V
