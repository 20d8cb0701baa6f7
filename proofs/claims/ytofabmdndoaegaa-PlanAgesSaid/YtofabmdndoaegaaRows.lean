/-
  No cell of these rows narrows 'for every input' (looked for: loops, veiled, ifaces, maps, wideKeys, modest, calm, conditions, laid).
  DERIVED. THE GIVEN ROWS OF THIS SEAT. 11 by the template 'for every input the law returns true; each argument reads behind the call as it read before'; 0 by the template 'total and deterministic' (their statements: YtofabmdndoaegaaTotals.lean).
  GIVEN WITH THE SEED: the statements are not yours to turn. If you find one false, say at which input.
  Laid BY PROGRAM, IN A SANDBOX (cutbox-rows.mjs): the forced cells as the released guide's own fill.sh prints them over the translation 59e45b3411dce7f2… (all of the seat's roots in one cut). By AI agents, Wed Nov 11 2026. No macro, syntax, notation, axiom, sorry.
-/
import Derived.Test.YtofabmdndoaegaaChecked
import GoSem.Claim
import GoSem.ClaimJoined
import GoSem.ClaimMapViews
import Derived.JoinedTies
import Derived.KernelRfl
namespace Go.Proofs.Ytofabmdndoaegaa
/- THE CELL 'sum', in the pinned program and in every row, IS THE sha256 OF THE DUMP (.gsa) THAT YtofabmdndoaegaaProg.lean LOADS. Nothing in Lean hashes anything: it is a label: what it is worth is what the hold of that sum in a sandbox is worth. -/
noncomputable def Try.pinned : Pinned := { name := "ytofabmdndoaegaa", sum := "59e45b3411dce7f237bd9ea993c3420e446e47725eadc9ec4b42e90c8317b060", checked := Try.checked }
namespace Rows
def none {H : Type} : Left H := { results := [], args := [] }

/-- 'bellwetherlaw02.CrcSums': WHATEVER THE INPUT: true; the input reads as it did. -/
def crcSumsSpec : ChangeSpec := { name := "crcSums", fn := fun _ => fun
  | [d] => { results := [.lit (.bool true)], args := [d] }
  | _ => none }
def crcSumsRow : OpenClaim := { program := "ytofabmdndoaegaa", sum := "59e45b3411dce7f237bd9ea993c3420e446e47725eadc9ec4b42e90c8317b060", func := "bellwether/bellwetherlaw02.CrcSums", spec := "crcSums", apart := false }
def CrcSumsSaid : Prop := crcSumsRow.holds Try.pinned (OpenSpec.ofChange crcSumsSpec)

/-- ITS FALSE NEIGHBOUR: 'it returns false'. Refute it at one input. -/
def crcSumsWrong : ChangeSpec := { name := "crcSums", fn := fun _ => fun
  | [d] => { results := [.lit (.bool false)], args := [d] }
  | _ => none }
def CrcSumsWrongFalsely : Prop := crcSumsRow.holds Try.pinned (OpenSpec.ofChange crcSumsWrong)

/-- 'bellwetherlaw02.CrcBack': WHATEVER THE INPUT: true; the input reads as it did. -/
def crcBackSpec : ChangeSpec := { name := "crcBack", fn := fun _ => fun
  | [d] => { results := [.lit (.bool true)], args := [d] }
  | _ => none }
def crcBackRow : OpenClaim := { program := "ytofabmdndoaegaa", sum := "59e45b3411dce7f237bd9ea993c3420e446e47725eadc9ec4b42e90c8317b060", func := "bellwether/bellwetherlaw02.CrcBack", spec := "crcBack", apart := false }
def CrcBackSaid : Prop := crcBackRow.holds Try.pinned (OpenSpec.ofChange crcBackSpec)

/-- ITS FALSE NEIGHBOUR: 'it returns false'. Refute it at one input. -/
def crcBackWrong : ChangeSpec := { name := "crcBack", fn := fun _ => fun
  | [d] => { results := [.lit (.bool false)], args := [d] }
  | _ => none }
def CrcBackWrongFalsely : Prop := crcBackRow.holds Try.pinned (OpenSpec.ofChange crcBackWrong)

/-- 'bellwetherlaw02.CrcTells': WHATEVER THE INPUT: true; the input reads as it did. -/
def crcTellsSpec : ChangeSpec := { name := "crcTells", fn := fun _ => fun
  | [d1, d2, d3] => { results := [.lit (.bool true)], args := [d1, d2, d3] }
  | _ => none }
def crcTellsRow : OpenClaim := { program := "ytofabmdndoaegaa", sum := "59e45b3411dce7f237bd9ea993c3420e446e47725eadc9ec4b42e90c8317b060", func := "bellwether/bellwetherlaw02.CrcTells", spec := "crcTells", apart := false }
def CrcTellsSaid : Prop := crcTellsRow.holds Try.pinned (OpenSpec.ofChange crcTellsSpec)

/-- ITS FALSE NEIGHBOUR: 'it returns false'. Refute it at one input. -/
def crcTellsWrong : ChangeSpec := { name := "crcTells", fn := fun _ => fun
  | [d1, d2, d3] => { results := [.lit (.bool false)], args := [d1, d2, d3] }
  | _ => none }
def CrcTellsWrongFalsely : Prop := crcTellsRow.holds Try.pinned (OpenSpec.ofChange crcTellsWrong)

/-- 'bellwetherlaw02.CrcMixes': WHATEVER THE INPUT: true; the input reads as it did. -/
def crcMixesSpec : ChangeSpec := { name := "crcMixes", fn := fun _ => fun
  | [d1, d2, d3] => { results := [.lit (.bool true)], args := [d1, d2, d3] }
  | _ => none }
def crcMixesRow : OpenClaim := { program := "ytofabmdndoaegaa", sum := "59e45b3411dce7f237bd9ea993c3420e446e47725eadc9ec4b42e90c8317b060", func := "bellwether/bellwetherlaw02.CrcMixes", spec := "crcMixes", apart := false }
def CrcMixesSaid : Prop := crcMixesRow.holds Try.pinned (OpenSpec.ofChange crcMixesSpec)

/-- ITS FALSE NEIGHBOUR: 'it returns false'. Refute it at one input. -/
def crcMixesWrong : ChangeSpec := { name := "crcMixes", fn := fun _ => fun
  | [d1, d2, d3] => { results := [.lit (.bool false)], args := [d1, d2, d3] }
  | _ => none }
def CrcMixesWrongFalsely : Prop := crcMixesRow.holds Try.pinned (OpenSpec.ofChange crcMixesWrong)

/-- 'bellwetherlaw03.ConfPlain': WHATEVER THE INPUT: true; the input reads as it did. -/
def confPlainSpec : ChangeSpec := { name := "confPlain", fn := fun _ => fun
  | [d] => { results := [.lit (.bool true)], args := [d] }
  | _ => none }
def confPlainRow : OpenClaim := { program := "ytofabmdndoaegaa", sum := "59e45b3411dce7f237bd9ea993c3420e446e47725eadc9ec4b42e90c8317b060", func := "bellwether/bellwetherlaw03.ConfPlain", spec := "confPlain", apart := false }
def ConfPlainSaid : Prop := confPlainRow.holds Try.pinned (OpenSpec.ofChange confPlainSpec)

/-- ITS FALSE NEIGHBOUR: 'it returns false'. Refute it at one input. -/
def confPlainWrong : ChangeSpec := { name := "confPlain", fn := fun _ => fun
  | [d] => { results := [.lit (.bool false)], args := [d] }
  | _ => none }
def ConfPlainWrongFalsely : Prop := confPlainRow.holds Try.pinned (OpenSpec.ofChange confPlainWrong)

/-- 'bellwetherlaw03.ConfHalf': WHATEVER THE INPUT: true; the input reads as it did. -/
def confHalfSpec : ChangeSpec := { name := "confHalf", fn := fun _ => fun
  | [d] => { results := [.lit (.bool true)], args := [d] }
  | _ => none }
def confHalfRow : OpenClaim := { program := "ytofabmdndoaegaa", sum := "59e45b3411dce7f237bd9ea993c3420e446e47725eadc9ec4b42e90c8317b060", func := "bellwether/bellwetherlaw03.ConfHalf", spec := "confHalf", apart := false }
def ConfHalfSaid : Prop := confHalfRow.holds Try.pinned (OpenSpec.ofChange confHalfSpec)

/-- ITS FALSE NEIGHBOUR: 'it returns false'. Refute it at one input. -/
def confHalfWrong : ChangeSpec := { name := "confHalf", fn := fun _ => fun
  | [d] => { results := [.lit (.bool false)], args := [d] }
  | _ => none }
def ConfHalfWrongFalsely : Prop := confHalfRow.holds Try.pinned (OpenSpec.ofChange confHalfWrong)

/-- 'bellwetherlaw03.ConfTurns': WHATEVER THE INPUT: true; the input reads as it did. -/
def confTurnsSpec : ChangeSpec := { name := "confTurns", fn := fun _ => fun
  | [d1, d2] => { results := [.lit (.bool true)], args := [d1, d2] }
  | _ => none }
def confTurnsRow : OpenClaim := { program := "ytofabmdndoaegaa", sum := "59e45b3411dce7f237bd9ea993c3420e446e47725eadc9ec4b42e90c8317b060", func := "bellwether/bellwetherlaw03.ConfTurns", spec := "confTurns", apart := false }
def ConfTurnsSaid : Prop := confTurnsRow.holds Try.pinned (OpenSpec.ofChange confTurnsSpec)

/-- ITS FALSE NEIGHBOUR: 'it returns false'. Refute it at one input. -/
def confTurnsWrong : ChangeSpec := { name := "confTurns", fn := fun _ => fun
  | [d1, d2] => { results := [.lit (.bool false)], args := [d1, d2] }
  | _ => none }
def ConfTurnsWrongFalsely : Prop := confTurnsRow.holds Try.pinned (OpenSpec.ofChange confTurnsWrong)

/-- 'bellwetherlaw15.PlanTells': WHATEVER THE INPUT: true; the input reads as it did. -/
def planTellsSpec : ChangeSpec := { name := "planTells", fn := fun _ => fun
  | [d1, d2, d3] => { results := [.lit (.bool true)], args := [d1, d2, d3] }
  | _ => none }
def planTellsRow : OpenClaim := { program := "ytofabmdndoaegaa", sum := "59e45b3411dce7f237bd9ea993c3420e446e47725eadc9ec4b42e90c8317b060", func := "bellwether/bellwetherlaw15.PlanTells", spec := "planTells", apart := false }
def PlanTellsSaid : Prop := planTellsRow.holds Try.pinned (OpenSpec.ofChange planTellsSpec)

/-- ITS FALSE NEIGHBOUR: 'it returns false'. Refute it at one input. -/
def planTellsWrong : ChangeSpec := { name := "planTells", fn := fun _ => fun
  | [d1, d2, d3] => { results := [.lit (.bool false)], args := [d1, d2, d3] }
  | _ => none }
def PlanTellsWrongFalsely : Prop := planTellsRow.holds Try.pinned (OpenSpec.ofChange planTellsWrong)

/-- 'bellwetherlaw15.PlanLater': WHATEVER THE INPUT: true; the input reads as it did. -/
def planLaterSpec : ChangeSpec := { name := "planLater", fn := fun _ => fun
  | [d1, d2] => { results := [.lit (.bool true)], args := [d1, d2] }
  | _ => none }
def planLaterRow : OpenClaim := { program := "ytofabmdndoaegaa", sum := "59e45b3411dce7f237bd9ea993c3420e446e47725eadc9ec4b42e90c8317b060", func := "bellwether/bellwetherlaw15.PlanLater", spec := "planLater", apart := false }
def PlanLaterSaid : Prop := planLaterRow.holds Try.pinned (OpenSpec.ofChange planLaterSpec)

/-- ITS FALSE NEIGHBOUR: 'it returns false'. Refute it at one input. -/
def planLaterWrong : ChangeSpec := { name := "planLater", fn := fun _ => fun
  | [d1, d2] => { results := [.lit (.bool false)], args := [d1, d2] }
  | _ => none }
def PlanLaterWrongFalsely : Prop := planLaterRow.holds Try.pinned (OpenSpec.ofChange planLaterWrong)

/-- 'bellwetherlaw15.PlanKings': WHATEVER THE INPUT: true; the input reads as it did. -/
def planKingsSpec : ChangeSpec := { name := "planKings", fn := fun _ => fun
  | [d] => { results := [.lit (.bool true)], args := [d] }
  | _ => none }
def planKingsRow : OpenClaim := { program := "ytofabmdndoaegaa", sum := "59e45b3411dce7f237bd9ea993c3420e446e47725eadc9ec4b42e90c8317b060", func := "bellwether/bellwetherlaw15.PlanKings", spec := "planKings", apart := false }
def PlanKingsSaid : Prop := planKingsRow.holds Try.pinned (OpenSpec.ofChange planKingsSpec)

/-- ITS FALSE NEIGHBOUR: 'it returns false'. Refute it at one input. -/
def planKingsWrong : ChangeSpec := { name := "planKings", fn := fun _ => fun
  | [d] => { results := [.lit (.bool false)], args := [d] }
  | _ => none }
def PlanKingsWrongFalsely : Prop := planKingsRow.holds Try.pinned (OpenSpec.ofChange planKingsWrong)

/-- 'bellwetherlaw15.PlanAges': WHATEVER THE INPUT: true; the input reads as it did. -/
def planAgesSpec : ChangeSpec := { name := "planAges", fn := fun _ => fun
  | [d1, d2] => { results := [.lit (.bool true)], args := [d1, d2] }
  | _ => none }
def planAgesRow : OpenClaim := { program := "ytofabmdndoaegaa", sum := "59e45b3411dce7f237bd9ea993c3420e446e47725eadc9ec4b42e90c8317b060", func := "bellwether/bellwetherlaw15.PlanAges", spec := "planAges", unfollowed := true, recurses := true, apart := false }
def PlanAgesSaid : Prop := planAgesRow.holds Try.pinned (OpenSpec.ofChange planAgesSpec)

/-- ITS FALSE NEIGHBOUR: 'it returns false'. Refute it at one input. -/
def planAgesWrong : ChangeSpec := { name := "planAges", fn := fun _ => fun
  | [d1, d2] => { results := [.lit (.bool false)], args := [d1, d2] }
  | _ => none }
def PlanAgesWrongFalsely : Prop := planAgesRow.holds Try.pinned (OpenSpec.ofChange planAgesWrong)

/- THE SECOND FORM. 'bulk': how many values and letters a reading holds, each counted each time it is reached (what is shared counts as often as it is met; a slice's spare places count too). A statement '..UptoSaid' is the law's where the arguments, and the package variables that the reading takes, are together of bulk at most 1048576: NARROWER than '..Said'. Prove '..Said' where nothing that the law and all that it calls make is longer than what came in: it says more and counts as full. Else prove '..UptoSaid'. A law counts once. -/
mutual
def uptoBulk {H : Type} : DataW H → Nat
  | .lit (.string bytes) => bytes.length + 1
  | .lit _ => 1
  | .nil => 1
  | .ptr d => uptoBulk d + 1
  | .slice elems spare => uptoBulkAll elems + uptoBulkAll spare + 1
  | .agg parts => uptoBulkAll parts + 1
  | .iface _ d => uptoBulk d + 1
  | .map entries => uptoBulkEntries entries + 1
  | .held _ => 1
def uptoBulkAll {H : Type} : List (DataW H) → Nat
  | [] => 0
  | d :: r => uptoBulk d + uptoBulkAll r
def uptoBulkEntries {H : Type} : List (Lit × DataW H) → Nat
  | [] => 0
  | x :: r => uptoBulkEntry x + uptoBulkEntries r
def uptoBulkEntry {H : Type} : Lit × DataW H → Nat
  | (.string bytes, d) => bytes.length + uptoBulk d + 1
  | (_, d) => uptoBulk d + 1
 end
def uptoSmall : (H : Type) → List (DataW H) → Bool := fun _ ds => decide (uptoBulkAll ds ≤ 1048576)
def OpenSpec.upto (s : _root_.Go.ChangeSpec) : _root_.Go.OpenSpec := { _root_.Go.OpenSpec.ofChange s with cond := some uptoSmall }

/-- 'bellwetherlaw02.CrcSums', WHERE WHAT IT READS IS OF BULK AT MOST 1048576: true; the input reads as it did. -/
def crcSumsUptoRow : OpenClaim := { program := "ytofabmdndoaegaa", sum := "59e45b3411dce7f237bd9ea993c3420e446e47725eadc9ec4b42e90c8317b060", func := "bellwether/bellwetherlaw02.CrcSums", spec := "crcSums", apart := false, narrowed := true }
def CrcSumsUptoSaid : Prop := crcSumsUptoRow.holds Try.pinned (OpenSpec.upto crcSumsSpec)

/-- 'bellwetherlaw02.CrcBack', WHERE WHAT IT READS IS OF BULK AT MOST 1048576: true; the input reads as it did. -/
def crcBackUptoRow : OpenClaim := { program := "ytofabmdndoaegaa", sum := "59e45b3411dce7f237bd9ea993c3420e446e47725eadc9ec4b42e90c8317b060", func := "bellwether/bellwetherlaw02.CrcBack", spec := "crcBack", apart := false, narrowed := true }
def CrcBackUptoSaid : Prop := crcBackUptoRow.holds Try.pinned (OpenSpec.upto crcBackSpec)

/-- 'bellwetherlaw02.CrcTells', WHERE WHAT IT READS IS OF BULK AT MOST 1048576: true; the input reads as it did. -/
def crcTellsUptoRow : OpenClaim := { program := "ytofabmdndoaegaa", sum := "59e45b3411dce7f237bd9ea993c3420e446e47725eadc9ec4b42e90c8317b060", func := "bellwether/bellwetherlaw02.CrcTells", spec := "crcTells", apart := false, narrowed := true }
def CrcTellsUptoSaid : Prop := crcTellsUptoRow.holds Try.pinned (OpenSpec.upto crcTellsSpec)

/-- 'bellwetherlaw02.CrcMixes', WHERE WHAT IT READS IS OF BULK AT MOST 1048576: true; the input reads as it did. -/
def crcMixesUptoRow : OpenClaim := { program := "ytofabmdndoaegaa", sum := "59e45b3411dce7f237bd9ea993c3420e446e47725eadc9ec4b42e90c8317b060", func := "bellwether/bellwetherlaw02.CrcMixes", spec := "crcMixes", apart := false, narrowed := true }
def CrcMixesUptoSaid : Prop := crcMixesUptoRow.holds Try.pinned (OpenSpec.upto crcMixesSpec)

/-- 'bellwetherlaw03.ConfPlain', WHERE WHAT IT READS IS OF BULK AT MOST 1048576: true; the input reads as it did. -/
def confPlainUptoRow : OpenClaim := { program := "ytofabmdndoaegaa", sum := "59e45b3411dce7f237bd9ea993c3420e446e47725eadc9ec4b42e90c8317b060", func := "bellwether/bellwetherlaw03.ConfPlain", spec := "confPlain", apart := false, narrowed := true }
def ConfPlainUptoSaid : Prop := confPlainUptoRow.holds Try.pinned (OpenSpec.upto confPlainSpec)

/-- 'bellwetherlaw03.ConfHalf', WHERE WHAT IT READS IS OF BULK AT MOST 1048576: true; the input reads as it did. -/
def confHalfUptoRow : OpenClaim := { program := "ytofabmdndoaegaa", sum := "59e45b3411dce7f237bd9ea993c3420e446e47725eadc9ec4b42e90c8317b060", func := "bellwether/bellwetherlaw03.ConfHalf", spec := "confHalf", apart := false, narrowed := true }
def ConfHalfUptoSaid : Prop := confHalfUptoRow.holds Try.pinned (OpenSpec.upto confHalfSpec)

/-- 'bellwetherlaw03.ConfTurns', WHERE WHAT IT READS IS OF BULK AT MOST 1048576: true; the input reads as it did. -/
def confTurnsUptoRow : OpenClaim := { program := "ytofabmdndoaegaa", sum := "59e45b3411dce7f237bd9ea993c3420e446e47725eadc9ec4b42e90c8317b060", func := "bellwether/bellwetherlaw03.ConfTurns", spec := "confTurns", apart := false, narrowed := true }
def ConfTurnsUptoSaid : Prop := confTurnsUptoRow.holds Try.pinned (OpenSpec.upto confTurnsSpec)

/-- 'bellwetherlaw15.PlanTells', WHERE WHAT IT READS IS OF BULK AT MOST 1048576: true; the input reads as it did. -/
def planTellsUptoRow : OpenClaim := { program := "ytofabmdndoaegaa", sum := "59e45b3411dce7f237bd9ea993c3420e446e47725eadc9ec4b42e90c8317b060", func := "bellwether/bellwetherlaw15.PlanTells", spec := "planTells", apart := false, narrowed := true }
def PlanTellsUptoSaid : Prop := planTellsUptoRow.holds Try.pinned (OpenSpec.upto planTellsSpec)

/-- 'bellwetherlaw15.PlanLater', WHERE WHAT IT READS IS OF BULK AT MOST 1048576: true; the input reads as it did. -/
def planLaterUptoRow : OpenClaim := { program := "ytofabmdndoaegaa", sum := "59e45b3411dce7f237bd9ea993c3420e446e47725eadc9ec4b42e90c8317b060", func := "bellwether/bellwetherlaw15.PlanLater", spec := "planLater", apart := false, narrowed := true }
def PlanLaterUptoSaid : Prop := planLaterUptoRow.holds Try.pinned (OpenSpec.upto planLaterSpec)

/-- 'bellwetherlaw15.PlanKings', WHERE WHAT IT READS IS OF BULK AT MOST 1048576: true; the input reads as it did. -/
def planKingsUptoRow : OpenClaim := { program := "ytofabmdndoaegaa", sum := "59e45b3411dce7f237bd9ea993c3420e446e47725eadc9ec4b42e90c8317b060", func := "bellwether/bellwetherlaw15.PlanKings", spec := "planKings", apart := false, narrowed := true }
def PlanKingsUptoSaid : Prop := planKingsUptoRow.holds Try.pinned (OpenSpec.upto planKingsSpec)

/-- 'bellwetherlaw15.PlanAges', WHERE WHAT IT READS IS OF BULK AT MOST 1048576: true; the input reads as it did. -/
def planAgesUptoRow : OpenClaim := { program := "ytofabmdndoaegaa", sum := "59e45b3411dce7f237bd9ea993c3420e446e47725eadc9ec4b42e90c8317b060", func := "bellwether/bellwetherlaw15.PlanAges", spec := "planAges", unfollowed := true, recurses := true, apart := false, narrowed := true }
def PlanAgesUptoSaid : Prop := planAgesUptoRow.holds Try.pinned (OpenSpec.upto planAgesSpec)

end Rows
end Go.Proofs.Ytofabmdndoaegaa
