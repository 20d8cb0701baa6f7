import Derived.Test.YtfannnojhkkaiaaYVecNumbers41
import Derived.Test.YtfannnojhkkaiaaYVecNumbers11
import Derived.Test.YtfannnojhkkaiaaYVecNumbers33
import Derived.Test.YtfannnojhkkaiaaYVecNumbers34
import Derived.Test.YtfannnojhkkaiaaYVecNumbers35
import Derived.Test.YtfannnojhkkaiaaYVecNumbers37
set_option linter.unusedVariables false
set_option linter.unusedSimpArgs false
namespace Go.Proofs.Ytfannnojhkkaiaa.ConfLib
open Go.RowKit Go.Proofs.Ytfannnojhkkaiaa.V Go.Proofs.YtfannnojhkkaiaaW.PrintWords Go.Proofs.YtfannnojhkkaiaaW.PrintMore
def rounds (n f d p r dr o s m fr : Int) (t : List Int) : Int := if plain n f d p r dr o s m fr t = 0 then 3 * (f + 1) else 0
def length (n f d p r dr o s m fr : Int) (t : List Int) : Int := if plain n f d p r dr o s m fr t = 0 then 3 * (f + 1) * d else 0
def bits (n f d p r dr o s m fr : Int) (t : List Int) : Int := if plain n f d p r dr o s m fr t = 0 then 8 + n else 0
theorem w3 {f : Int} (hf : 0 ≤ f ∧ f ≤ 4) : wrap64 (3 * wrap64 (f + 1)) = 3 * (f + 1) := by
  rw [wrap_small (n := f + 1) (by omega) (by omega), wrap_small (by omega) (by omega)]
end Go.Proofs.Ytfannnojhkkaiaa.ConfLib
