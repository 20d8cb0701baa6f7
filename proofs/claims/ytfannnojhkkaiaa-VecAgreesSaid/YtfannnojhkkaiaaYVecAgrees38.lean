import Derived.Test.YtfannnojhkkaiaaYVecAgrees11
import Derived.Test.YtfannnojhkkaiaaYVecAgrees17
import Derived.Test.YtfannnojhkkaiaaYVecAgrees20
import Derived.Test.YtfannnojhkkaiaaYVecAgrees33
import Derived.Test.YtfannnojhkkaiaaYVecAgrees34
import Derived.Test.YtfannnojhkkaiaaYVecAgrees35
import Derived.Test.YtfannnojhkkaiaaYVecAgrees37
namespace Go.Proofs.Ytfannnojhkkaiaa.V
open Go.RowKit Go.Proofs.YtfannnojhkkaiaaW.PrintWords Go.Proofs.YtfannnojhkkaiaaW.PrintLast Go.Proofs.YtfannnojhkkaiaaW.PrintMore
attribute [local go_sem] max2_int min2_int max_two min_two max_three min_three max_four min_four   -- for this text's walks alone
set_option linter.unusedVariables false
set_option linter.unusedSimpArgs false
def bellwetherref16_Number.l0 : Nat → ByteArray → Int → Int → Int → Option (Int)
 | 0, _, _, _, _ => none
 | k + 1, x0, x3, x4, x5 => if x5 < 8 then (if x5 < (x0.size : Int) then (if 0 ≤ x5 then ((bellwetherref16_bit.f (bt x0 x5)).bind fun t261 => (bellwetherref16_Number.l0 k x0 (wrap64 (x3 + (wrap64 (x4 * t261)))) (wrap64 (2 * x4)) (wrap64 (x5 + 1)))) else (none)) else (some x3)) else (some x3)
def bellwetherref16_Number.f (k : Nat) (a0 : ByteArray) : Option (Int) := bellwetherref16_Number.l0 k a0 0 1 0
end Go.Proofs.Ytfannnojhkkaiaa.V
