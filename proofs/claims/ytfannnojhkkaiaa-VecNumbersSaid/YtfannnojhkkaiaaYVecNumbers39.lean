import Derived.Test.YtfannnojhkkaiaaYVecNumbers37
import Derived.Test.YtfannnojhkkaiaaYVecNumbers38
namespace Go.Proofs.Ytfannnojhkkaiaa.vecNumbers
open Go.RowKit Go.Proofs.Ytfannnojhkkaiaa.V Go.Proofs.YtfannnojhkkaiaaW.PrintWords Go.Proofs.YtfannnojhkkaiaaW.PrintLast Go.Proofs.YtfannnojhkkaiaaW.PrintMore
set_option linter.unusedVariables false
def W9 (x : ByteArray) : Prop := x.size ≤ 140737488351232
theorem op9 : Opens Try.prog 9 Kd.string W9 := Opens.string Try.underlying9
def W3 (x : Int) : Prop := (Lit.int .i64 x).wf = true
theorem op3 : Opens Try.prog 3 (Kd.int .i64) W3 := Opens.int Try.underlying3
def Pure : Prop := ∀ (x0 : ByteArray) (x1 : Int) (x2 : Int), W9 x0 → W3 x1 → W3 x2 → ∃ k, bellwetherlaw16_VecNumbers.f k x0 x1 x2 = some true
end Go.Proofs.Ytfannnojhkkaiaa.vecNumbers
