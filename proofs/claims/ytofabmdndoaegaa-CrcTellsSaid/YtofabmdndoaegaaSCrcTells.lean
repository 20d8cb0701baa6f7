import Derived.Test.YtofabmdndoaegaaXx5
import Derived.Test.YtofabmdndoaegaaXo
namespace Go.Proofs.Ytofabmdndoaegaa.crcTells
open Go.RowKit Go.Proofs.Ytofabmdndoaegaa.X Go.Proofs.YtofabmdndoaegaaW.PrintWords Go.Proofs.YtofabmdndoaegaaW.PrintLast Go.Proofs.YtofabmdndoaegaaW.PrintMore
set_option linter.unusedVariables false
def W9 (x : ByteArray) : Prop := x.size ≤ 140737488351232
theorem op9 : Opens Try.prog 9 Kd.string W9 := Opens.string Try.underlying9
def W3 (x : Int) : Prop := (Lit.int .i64 x).wf = true
theorem op3 : Opens Try.prog 3 (Kd.int .i64) W3 := Opens.int Try.underlying3
def W5 (x : Int) : Prop := (Lit.int .u8 x).wf = true
theorem op5 : Opens Try.prog 5 (Kd.int .u8) W5 := Opens.int Try.underlying5
/-- The law over numbers and lists: what is left when the machine has been walked. -/
def Pure : Prop := ∀ (x0 : ByteArray) (x1 : Int) (x2 : Int), W9 x0 → W3 x1 → W5 x2 → ∃ k, bellwetherlaw02_CrcTells.f k x0 x1 x2 = some true
end Go.Proofs.Ytofabmdndoaegaa.crcTells
