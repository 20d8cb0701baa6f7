import Derived.Test.YtfdkmeokfmgfhaaYPortLast11
import Derived.Laws.MakeOwn
import Derived.Laws.Strings
import Derived.Laws.BytesArg
import Derived.WideShapes
set_option linter.unusedVariables false
set_option linter.unusedSimpArgs false
namespace Go.Proofs.Ytfdkmeokfmgfhaa.Bytes
open Go.RowKit Go.Proofs.YtfdkmeokfmgfhaaW.PrintWords
theorem wrap_small {n : Int} (h0 : -9223372036854775808 ≤ n) (h1 : n ≤ 9223372036854775807) : wrap64 n = n := by
  unfold wrap64
  omega
end Go.Proofs.Ytfdkmeokfmgfhaa.Bytes
