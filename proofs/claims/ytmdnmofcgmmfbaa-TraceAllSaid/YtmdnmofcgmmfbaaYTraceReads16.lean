import Derived.Test.YtmdnmofcgmmfbaaYTraceReads12
import Derived.Laws.MakeOwn
set_option linter.unusedVariables false
set_option linter.unusedSimpArgs false
namespace Go.Proofs.Ytmdnmofcgmmfbaa.KW
open Go.RowKit Go.Proofs.YtmdnmofcgmmfbaaW.PrintWords
section
variable {W : World} {e base g m cap : Nat} {ok : Nat → Prop} {k : IntKind} {xs : List Int}
end
def part {α : Type} (z : α) (V : List α) (m j : Nat) : List α := V.take j ++ List.replicate (m - j) z
end Go.Proofs.Ytmdnmofcgmmfbaa.KW
