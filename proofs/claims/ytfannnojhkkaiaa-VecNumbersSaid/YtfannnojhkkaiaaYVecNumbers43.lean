import Derived.Test.YtfannnojhkkaiaaYVecNumbers42
import Derived.Test.YtfannnojhkkaiaaYVecNumbers25
import Derived.Test.YtfannnojhkkaiaaYVecNumbers23
import Derived.Test.YtfannnojhkkaiaaYVecNumbers29
import Derived.Test.YtfannnojhkkaiaaYVecNumbers28
import Derived.Test.YtfannnojhkkaiaaYVecNumbers30
import Derived.Test.YtfannnojhkkaiaaYVecNumbers26
set_option linter.unusedVariables false
set_option linter.unusedSimpArgs false
set_option linter.unusedSectionVars false
namespace Go.Proofs.Ytfannnojhkkaiaa.TallyLib
open Go.RowKit Go.Proofs.Ytfannnojhkkaiaa.V Go.Proofs.YtfannnojhkkaiaaW.PrintWords Go.Proofs.YtfannnojhkkaiaaW.PrintMore Go.Proofs.Ytfannnojhkkaiaa.ConfLib
def C (v : Int) (l : List Int) : Int := if v < 0 ∨ 3 ≤ v then 0 else (l.count v : Nat)
section
variable (n f d p r dr o s m fr : Int) (t : List Int)
def Q : Int := if plain n f d p r dr o s m fr t = 0 then n - f else 0
def S : Int := if plain n f d p r dr o s m fr t = 0 then f + 1 else 0
def E (v : Int) (l : List Int) : Bool := decide (plain n f d p r dr o s m fr t = 0 ∧ n - f ≤ C v l)
def M (l : List Int) : Int := if plain n f d p r dr o s m fr t = 0 then (if n - f ≤ C 1 l then 1 else if n - f ≤ C 0 l then 0 else 2) else 2
def L (now : Int) (l : List Int) : Int := if plain n f d p r dr o s m fr t = 0 then (if f + 1 ≤ C 0 l then 0 else if f + 1 ≤ C 1 l then 1 else if f + 1 ≤ C 2 l then 2 else now) else now
end
end Go.Proofs.Ytfannnojhkkaiaa.TallyLib
