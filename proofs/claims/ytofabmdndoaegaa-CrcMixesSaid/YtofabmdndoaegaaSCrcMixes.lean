import Derived.Test.YtofabmdndoaegaaXx6
import Derived.Test.YtofabmdndoaegaaXo
namespace Go.Proofs.Ytofabmdndoaegaa.crcMixes
open Go.RowKit Go.Proofs.Ytofabmdndoaegaa.X Go.Proofs.YtofabmdndoaegaaW.PrintWords Go.Proofs.YtofabmdndoaegaaW.PrintLast Go.Proofs.YtofabmdndoaegaaW.PrintMore
set_option linter.unusedVariables false
def W9 (x : ByteArray) : Prop := x.size ≤ 140737488351232
theorem op9 : Opens Try.prog 9 Kd.string W9 := Opens.string Try.underlying9
/-- The law over numbers and lists: what is left when the machine has been walked. -/
def Pure : Prop := ∀ (x0 : ByteArray) (x1 : ByteArray) (x2 : ByteArray), W9 x0 → W9 x1 → W9 x2 → ∃ k, bellwetherlaw02_CrcMixes.f k x0 x1 x2 = some true
end Go.Proofs.Ytofabmdndoaegaa.crcMixes
