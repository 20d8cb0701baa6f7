/-
  No cell of these rows narrows 'for every input' (looked for: loops, veiled, ifaces, maps, wideKeys, modest, calm, conditions, laid).
  DERIVED. THE GIVEN ROWS OF THIS SEAT. 8 by the template 'for every input the law returns true; each argument reads behind the call as it read before'; 0 by the template 'total and deterministic' (their statements: YtfdkmeokfmgfhaaTotals.lean).
  GIVEN WITH THE SEED: the statements are not yours to turn. If you find one false, say at which input.
  Laid BY PROGRAM, IN A SANDBOX (cutbox-rows.mjs): the forced cells as the released guide's own fill.sh prints them over the translation c22d2d651b9b47e7… (all of the seat's roots in one cut). By AI agents, Wed Nov 11 2026. No macro, syntax, notation, axiom, sorry.
-/
import Derived.Test.YtfdkmeokfmgfhaaChecked
import GoSem.Claim
import GoSem.ClaimJoined
import GoSem.ClaimMapViews
import Derived.JoinedTies
import Derived.KernelRfl
namespace Go.Proofs.Ytfdkmeokfmgfhaa
/- THE CELL 'sum', in the pinned program and in every row, IS THE sha256 OF THE DUMP (.gsa) THAT YtfdkmeokfmgfhaaProg.lean LOADS. Nothing in Lean hashes anything: it is a label: what it is worth is what the hold of that sum in a sandbox is worth. -/
noncomputable def Try.pinned : Pinned := { name := "ytfdkmeokfmgfhaa", sum := "c22d2d651b9b47e702d01b9827c4ea793c3065ab9e18d61ba70823dd97455fc7", checked := Try.checked }
namespace Rows
def none {H : Type} : Left H := { results := [], args := [] }

/-- 'bellwetherlaw26.PortMoves': WHATEVER THE INPUT: true; the input reads as it did. -/
def portMovesSpec : ChangeSpec := { name := "portMoves", fn := fun _ => fun
  | [d1, d2, d3] => { results := [.lit (.bool true)], args := [d1, d2, d3] }
  | _ => none }
def portMovesRow : OpenClaim := { program := "ytfdkmeokfmgfhaa", sum := "c22d2d651b9b47e702d01b9827c4ea793c3065ab9e18d61ba70823dd97455fc7", func := "bellwether/bellwetherlaw26.PortMoves", spec := "portMoves", apart := false }
def PortMovesSaid : Prop := portMovesRow.holds Try.pinned (OpenSpec.ofChange portMovesSpec)

/-- ITS FALSE NEIGHBOUR: 'it returns false'. Refute it at one input. -/
def portMovesWrong : ChangeSpec := { name := "portMoves", fn := fun _ => fun
  | [d1, d2, d3] => { results := [.lit (.bool false)], args := [d1, d2, d3] }
  | _ => none }
def PortMovesWrongFalsely : Prop := portMovesRow.holds Try.pinned (OpenSpec.ofChange portMovesWrong)

/-- 'bellwetherlaw26.PortReads': WHATEVER THE INPUT: true; the input reads as it did. -/
def portReadsSpec : ChangeSpec := { name := "portReads", fn := fun _ => fun
  | [d1, d2, d3] => { results := [.lit (.bool true)], args := [d1, d2, d3] }
  | _ => none }
def portReadsRow : OpenClaim := { program := "ytfdkmeokfmgfhaa", sum := "c22d2d651b9b47e702d01b9827c4ea793c3065ab9e18d61ba70823dd97455fc7", func := "bellwether/bellwetherlaw26.PortReads", spec := "portReads", apart := false }
def PortReadsSaid : Prop := portReadsRow.holds Try.pinned (OpenSpec.ofChange portReadsSpec)

/-- ITS FALSE NEIGHBOUR: 'it returns false'. Refute it at one input. -/
def portReadsWrong : ChangeSpec := { name := "portReads", fn := fun _ => fun
  | [d1, d2, d3] => { results := [.lit (.bool false)], args := [d1, d2, d3] }
  | _ => none }
def PortReadsWrongFalsely : Prop := portReadsRow.holds Try.pinned (OpenSpec.ofChange portReadsWrong)

/-- 'bellwetherlaw26.PortFades': WHATEVER THE INPUT: true; the input reads as it did. -/
def portFadesSpec : ChangeSpec := { name := "portFades", fn := fun _ => fun
  | [d1, d2, d3, d4] => { results := [.lit (.bool true)], args := [d1, d2, d3, d4] }
  | _ => none }
def portFadesRow : OpenClaim := { program := "ytfdkmeokfmgfhaa", sum := "c22d2d651b9b47e702d01b9827c4ea793c3065ab9e18d61ba70823dd97455fc7", func := "bellwether/bellwetherlaw26.PortFades", spec := "portFades", apart := false }
def PortFadesSaid : Prop := portFadesRow.holds Try.pinned (OpenSpec.ofChange portFadesSpec)

/-- ITS FALSE NEIGHBOUR: 'it returns false'. Refute it at one input. -/
def portFadesWrong : ChangeSpec := { name := "portFades", fn := fun _ => fun
  | [d1, d2, d3, d4] => { results := [.lit (.bool false)], args := [d1, d2, d3, d4] }
  | _ => none }
def PortFadesWrongFalsely : Prop := portFadesRow.holds Try.pinned (OpenSpec.ofChange portFadesWrong)

/-- 'bellwetherlaw26.PortLast': WHATEVER THE INPUT: true; the input reads as it did. -/
def portLastSpec : ChangeSpec := { name := "portLast", fn := fun _ => fun
  | [d1, d2, d3, d4] => { results := [.lit (.bool true)], args := [d1, d2, d3, d4] }
  | _ => none }
def portLastRow : OpenClaim := { program := "ytfdkmeokfmgfhaa", sum := "c22d2d651b9b47e702d01b9827c4ea793c3065ab9e18d61ba70823dd97455fc7", func := "bellwether/bellwetherlaw26.PortLast", spec := "portLast", apart := false }
def PortLastSaid : Prop := portLastRow.holds Try.pinned (OpenSpec.ofChange portLastSpec)

/-- ITS FALSE NEIGHBOUR: 'it returns false'. Refute it at one input. -/
def portLastWrong : ChangeSpec := { name := "portLast", fn := fun _ => fun
  | [d1, d2, d3, d4] => { results := [.lit (.bool false)], args := [d1, d2, d3, d4] }
  | _ => none }
def PortLastWrongFalsely : Prop := portLastRow.holds Try.pinned (OpenSpec.ofChange portLastWrong)

/-- 'bellwetherlaw12.HoldPuts': WHATEVER THE INPUT: true; the input reads as it did. -/
def holdPutsSpec : ChangeSpec := { name := "holdPuts", fn := fun _ => fun
  | [d1, d2, d3] => { results := [.lit (.bool true)], args := [d1, d2, d3] }
  | _ => none }
def holdPutsRow : OpenClaim := { program := "ytfdkmeokfmgfhaa", sum := "c22d2d651b9b47e702d01b9827c4ea793c3065ab9e18d61ba70823dd97455fc7", func := "bellwether/bellwetherlaw12.HoldPuts", spec := "holdPuts", apart := false }
def HoldPutsSaid : Prop := holdPutsRow.holds Try.pinned (OpenSpec.ofChange holdPutsSpec)

/-- ITS FALSE NEIGHBOUR: 'it returns false'. Refute it at one input. -/
def holdPutsWrong : ChangeSpec := { name := "holdPuts", fn := fun _ => fun
  | [d1, d2, d3] => { results := [.lit (.bool false)], args := [d1, d2, d3] }
  | _ => none }
def HoldPutsWrongFalsely : Prop := holdPutsRow.holds Try.pinned (OpenSpec.ofChange holdPutsWrong)

/-- 'bellwetherlaw12.HoldTakes': WHATEVER THE INPUT: true; the input reads as it did. -/
def holdTakesSpec : ChangeSpec := { name := "holdTakes", fn := fun _ => fun
  | [d1, d2, d3] => { results := [.lit (.bool true)], args := [d1, d2, d3] }
  | _ => none }
def holdTakesRow : OpenClaim := { program := "ytfdkmeokfmgfhaa", sum := "c22d2d651b9b47e702d01b9827c4ea793c3065ab9e18d61ba70823dd97455fc7", func := "bellwether/bellwetherlaw12.HoldTakes", spec := "holdTakes", apart := false }
def HoldTakesSaid : Prop := holdTakesRow.holds Try.pinned (OpenSpec.ofChange holdTakesSpec)

/-- ITS FALSE NEIGHBOUR: 'it returns false'. Refute it at one input. -/
def holdTakesWrong : ChangeSpec := { name := "holdTakes", fn := fun _ => fun
  | [d1, d2, d3] => { results := [.lit (.bool false)], args := [d1, d2, d3] }
  | _ => none }
def HoldTakesWrongFalsely : Prop := holdTakesRow.holds Try.pinned (OpenSpec.ofChange holdTakesWrong)

/-- 'bellwetherlaw12.HoldWaits': WHATEVER THE INPUT: true; the input reads as it did. -/
def holdWaitsSpec : ChangeSpec := { name := "holdWaits", fn := fun _ => fun
  | [d1, d2, d3] => { results := [.lit (.bool true)], args := [d1, d2, d3] }
  | _ => none }
def holdWaitsRow : OpenClaim := { program := "ytfdkmeokfmgfhaa", sum := "c22d2d651b9b47e702d01b9827c4ea793c3065ab9e18d61ba70823dd97455fc7", func := "bellwether/bellwetherlaw12.HoldWaits", spec := "holdWaits", apart := false }
def HoldWaitsSaid : Prop := holdWaitsRow.holds Try.pinned (OpenSpec.ofChange holdWaitsSpec)

/-- ITS FALSE NEIGHBOUR: 'it returns false'. Refute it at one input. -/
def holdWaitsWrong : ChangeSpec := { name := "holdWaits", fn := fun _ => fun
  | [d1, d2, d3] => { results := [.lit (.bool false)], args := [d1, d2, d3] }
  | _ => none }
def HoldWaitsWrongFalsely : Prop := holdWaitsRow.holds Try.pinned (OpenSpec.ofChange holdWaitsWrong)

/-- 'bellwetherlaw12.HoldEnds': WHATEVER THE INPUT: true; the input reads as it did. -/
def holdEndsSpec : ChangeSpec := { name := "holdEnds", fn := fun _ => fun
  | [d1, d2, d3] => { results := [.lit (.bool true)], args := [d1, d2, d3] }
  | _ => none }
def holdEndsRow : OpenClaim := { program := "ytfdkmeokfmgfhaa", sum := "c22d2d651b9b47e702d01b9827c4ea793c3065ab9e18d61ba70823dd97455fc7", func := "bellwether/bellwetherlaw12.HoldEnds", spec := "holdEnds", apart := false }
def HoldEndsSaid : Prop := holdEndsRow.holds Try.pinned (OpenSpec.ofChange holdEndsSpec)

/-- ITS FALSE NEIGHBOUR: 'it returns false'. Refute it at one input. -/
def holdEndsWrong : ChangeSpec := { name := "holdEnds", fn := fun _ => fun
  | [d1, d2, d3] => { results := [.lit (.bool false)], args := [d1, d2, d3] }
  | _ => none }
def HoldEndsWrongFalsely : Prop := holdEndsRow.holds Try.pinned (OpenSpec.ofChange holdEndsWrong)

/- THE SECOND FORM. 'bulk': how many values and letters a reading holds, each counted each time it is reached (what is shared counts as often as it is met; a slice's spare places count too). A statement '..UptoSaid' is the law's where the arguments, and the package variables that the reading takes, are together of bulk at most 1048576: NARROWER than '..Said'. Prove '..Said' where nothing that the law and all that it calls make is longer than what came in: it says more and counts as full. Else prove '..UptoSaid'. A law counts once. -/
mutual
def uptoBulk {H : Type} : DataW H → Nat
  | .lit (.string bytes) => bytes.length + 1
  | .lit _ => 1
  | .nil => 1
  | .ptr d => uptoBulk d + 1
  | .slice elems spare => uptoBulkAll elems + uptoBulkAll spare + 1
  | .agg parts => uptoBulkAll parts + 1
  | .iface _ d => uptoBulk d + 1
  | .map entries => uptoBulkEntries entries + 1
  | .held _ => 1
def uptoBulkAll {H : Type} : List (DataW H) → Nat
  | [] => 0
  | d :: r => uptoBulk d + uptoBulkAll r
def uptoBulkEntries {H : Type} : List (Lit × DataW H) → Nat
  | [] => 0
  | x :: r => uptoBulkEntry x + uptoBulkEntries r
def uptoBulkEntry {H : Type} : Lit × DataW H → Nat
  | (.string bytes, d) => bytes.length + uptoBulk d + 1
  | (_, d) => uptoBulk d + 1
 end
def uptoSmall : (H : Type) → List (DataW H) → Bool := fun _ ds => decide (uptoBulkAll ds ≤ 1048576)
def OpenSpec.upto (s : _root_.Go.ChangeSpec) : _root_.Go.OpenSpec := { _root_.Go.OpenSpec.ofChange s with cond := some uptoSmall }

/-- 'bellwetherlaw26.PortMoves', WHERE WHAT IT READS IS OF BULK AT MOST 1048576: true; the input reads as it did. -/
def portMovesUptoRow : OpenClaim := { program := "ytfdkmeokfmgfhaa", sum := "c22d2d651b9b47e702d01b9827c4ea793c3065ab9e18d61ba70823dd97455fc7", func := "bellwether/bellwetherlaw26.PortMoves", spec := "portMoves", apart := false, narrowed := true }
def PortMovesUptoSaid : Prop := portMovesUptoRow.holds Try.pinned (OpenSpec.upto portMovesSpec)

/-- 'bellwetherlaw26.PortReads', WHERE WHAT IT READS IS OF BULK AT MOST 1048576: true; the input reads as it did. -/
def portReadsUptoRow : OpenClaim := { program := "ytfdkmeokfmgfhaa", sum := "c22d2d651b9b47e702d01b9827c4ea793c3065ab9e18d61ba70823dd97455fc7", func := "bellwether/bellwetherlaw26.PortReads", spec := "portReads", apart := false, narrowed := true }
def PortReadsUptoSaid : Prop := portReadsUptoRow.holds Try.pinned (OpenSpec.upto portReadsSpec)

/-- 'bellwetherlaw26.PortFades', WHERE WHAT IT READS IS OF BULK AT MOST 1048576: true; the input reads as it did. -/
def portFadesUptoRow : OpenClaim := { program := "ytfdkmeokfmgfhaa", sum := "c22d2d651b9b47e702d01b9827c4ea793c3065ab9e18d61ba70823dd97455fc7", func := "bellwether/bellwetherlaw26.PortFades", spec := "portFades", apart := false, narrowed := true }
def PortFadesUptoSaid : Prop := portFadesUptoRow.holds Try.pinned (OpenSpec.upto portFadesSpec)

/-- 'bellwetherlaw26.PortLast', WHERE WHAT IT READS IS OF BULK AT MOST 1048576: true; the input reads as it did. -/
def portLastUptoRow : OpenClaim := { program := "ytfdkmeokfmgfhaa", sum := "c22d2d651b9b47e702d01b9827c4ea793c3065ab9e18d61ba70823dd97455fc7", func := "bellwether/bellwetherlaw26.PortLast", spec := "portLast", apart := false, narrowed := true }
def PortLastUptoSaid : Prop := portLastUptoRow.holds Try.pinned (OpenSpec.upto portLastSpec)

/-- 'bellwetherlaw12.HoldPuts', WHERE WHAT IT READS IS OF BULK AT MOST 1048576: true; the input reads as it did. -/
def holdPutsUptoRow : OpenClaim := { program := "ytfdkmeokfmgfhaa", sum := "c22d2d651b9b47e702d01b9827c4ea793c3065ab9e18d61ba70823dd97455fc7", func := "bellwether/bellwetherlaw12.HoldPuts", spec := "holdPuts", apart := false, narrowed := true }
def HoldPutsUptoSaid : Prop := holdPutsUptoRow.holds Try.pinned (OpenSpec.upto holdPutsSpec)

/-- 'bellwetherlaw12.HoldTakes', WHERE WHAT IT READS IS OF BULK AT MOST 1048576: true; the input reads as it did. -/
def holdTakesUptoRow : OpenClaim := { program := "ytfdkmeokfmgfhaa", sum := "c22d2d651b9b47e702d01b9827c4ea793c3065ab9e18d61ba70823dd97455fc7", func := "bellwether/bellwetherlaw12.HoldTakes", spec := "holdTakes", apart := false, narrowed := true }
def HoldTakesUptoSaid : Prop := holdTakesUptoRow.holds Try.pinned (OpenSpec.upto holdTakesSpec)

/-- 'bellwetherlaw12.HoldWaits', WHERE WHAT IT READS IS OF BULK AT MOST 1048576: true; the input reads as it did. -/
def holdWaitsUptoRow : OpenClaim := { program := "ytfdkmeokfmgfhaa", sum := "c22d2d651b9b47e702d01b9827c4ea793c3065ab9e18d61ba70823dd97455fc7", func := "bellwether/bellwetherlaw12.HoldWaits", spec := "holdWaits", apart := false, narrowed := true }
def HoldWaitsUptoSaid : Prop := holdWaitsUptoRow.holds Try.pinned (OpenSpec.upto holdWaitsSpec)

/-- 'bellwetherlaw12.HoldEnds', WHERE WHAT IT READS IS OF BULK AT MOST 1048576: true; the input reads as it did. -/
def holdEndsUptoRow : OpenClaim := { program := "ytfdkmeokfmgfhaa", sum := "c22d2d651b9b47e702d01b9827c4ea793c3065ab9e18d61ba70823dd97455fc7", func := "bellwether/bellwetherlaw12.HoldEnds", spec := "holdEnds", apart := false, narrowed := true }
def HoldEndsUptoSaid : Prop := holdEndsUptoRow.holds Try.pinned (OpenSpec.upto holdEndsSpec)

end Rows
end Go.Proofs.Ytfdkmeokfmgfhaa
