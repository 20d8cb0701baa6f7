import Derived.Test.YtfannnojhkkaiaaYKingSteps44
import Derived.Test.YtfannnojhkkaiaaYKingSteps29
import Derived.Test.YtfannnojhkkaiaaYKingSteps12
import Derived.Test.YtfannnojhkkaiaaYKingSteps30
import Derived.Test.YtfannnojhkkaiaaYKingSteps32
import Derived.Test.YtfannnojhkkaiaaYKingSteps34
import Derived.Test.YtfannnojhkkaiaaYKingSteps24
set_option linter.unusedVariables false
set_option linter.unusedSimpArgs false
set_option linter.unusedSectionVars false
namespace Go.Proofs.Ytfannnojhkkaiaa.KingLib
open Go.RowKit Go.Proofs.Ytfannnojhkkaiaa.X Go.Proofs.YtfannnojhkkaiaaW.PrintWords Go.Proofs.YtfannnojhkkaiaaW.PrintMore Go.Proofs.Ytfannnojhkkaiaa.ConfLib Go.Proofs.Ytfannnojhkkaiaa.TallyLib
abbrev Bit := S52
abbrev rdB := rd_T52
section
variable (n f d p r dr o s m fr : Int) (t F L : List Int)
abbrev votes (x : Int) (B : List Bit) (i : Int) : List Int := king_play_votes.votes n F L B x i
def bitNext (x : Int) (B : List Bit) (j : Int) : Bit := ⟨(step n f d p r dr o s m fr t x (rdB B j).f0 (rdB B j).f1 (rd (votes n F L x B j) (x / 3)) (votes n F L x B j)).1, (step n f d p r dr o s m fr t x (rdB B j).f0 (rdB B j).f1 (rd (votes n F L x B j) (x / 3)) (votes n F L x B j)).2⟩
def exch (x : Int) (B : List Bit) : List Bit := (List.range n.toNat).map (fun (j : Nat) => bitNext n f d p r dr o s m fr t F L x B (j : Int))
def run : Nat → Int → List Bit → List Bit
  | 0, _, B => B
  | q + 1, x, B => run q (x + 1) (exch n f d p r dr o s m fr t F L x B)
def at_ (bits : List Int) : Nat → List Bit
  | 0 => king_Play.first n bits
  | x + 1 => exch n f d p r dr o s m fr t F L (x : Int) (at_ bits x)
end
section
variable (n f d p r dr o s m fr : Int) (t F L : List Int)
end
end Go.Proofs.Ytfannnojhkkaiaa.KingLib
