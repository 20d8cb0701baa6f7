import Derived.Test.YtmdnmofcgmmfbaaYWindowSince12
import Derived.Test.YtmdnmofcgmmfbaaYWindowSince20
import Derived.Test.YtmdnmofcgmmfbaaYWindowSince21
import Derived.Test.YtmdnmofcgmmfbaaYWindowSince23
namespace Go.Proofs.Ytmdnmofcgmmfbaa.X
open Go.RowKit Go.Proofs.YtmdnmofcgmmfbaaW.PrintWords Go.Proofs.YtmdnmofcgmmfbaaW.PrintLast Go.Proofs.YtmdnmofcgmmfbaaW.PrintMore
attribute [local go_sem] max2_int min2_int max_two min_two max_three min_three max_four min_four   -- for this text's walks alone
set_option linter.unusedVariables false
set_option linter.unusedSimpArgs false
theorem bellwetherref37_Regular.fld28_0 (v0 v1 v2 v3 v4 v5 v6 : Value) (w : World) : (Instr.field 28 (.agg #[v0, v1, v2, v3, v4, v5, v6]) 0).run Try.prog w = .ok (v0) w := by kernel_rfl
attribute [local go_sem] bellwetherref37_Regular.fld28_0
end Go.Proofs.Ytmdnmofcgmmfbaa.X
