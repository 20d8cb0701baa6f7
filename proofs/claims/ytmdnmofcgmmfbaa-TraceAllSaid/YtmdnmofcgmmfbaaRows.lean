/-
  No cell of these rows narrows 'for every input' (looked for: loops, veiled, ifaces, maps, wideKeys, modest, calm, conditions, laid).
  DERIVED. THE GIVEN ROWS OF THIS SEAT. 6 by the template 'for every input the law returns true; each argument reads behind the call as it read before'; 0 by the template 'total and deterministic' (their statements: YtmdnmofcgmmfbaaTotals.lean).
  GIVEN WITH THE SEED: the statements are not yours to turn. If you find one false, say at which input.
  Laid BY PROGRAM, IN A SANDBOX (cutbox-rows.mjs): the forced cells as the released guide's own fill.sh prints them over the translation bdc172215c1ba8d7… (all of the seat's roots in one cut). By AI agents, Wed Nov 11 2026. No macro, syntax, notation, axiom, sorry.
-/
import Derived.Test.YtmdnmofcgmmfbaaChecked
import GoSem.Claim
import GoSem.ClaimJoined
import GoSem.ClaimMapViews
import Derived.JoinedTies
import Derived.KernelRfl
namespace Go.Proofs.Ytmdnmofcgmmfbaa
/- THE CELL 'sum', in the pinned program and in every row, IS THE sha256 OF THE DUMP (.gsa) THAT YtmdnmofcgmmfbaaProg.lean LOADS. Nothing in Lean hashes anything: it is a label: what it is worth is what the hold of that sum in a sandbox is worth. -/
noncomputable def Try.pinned : Pinned := { name := "ytmdnmofcgmmfbaa", sum := "bdc172215c1ba8d78d0fb5ae10f6a903c27514e01962ef3df6e2a670f3a135d6", checked := Try.checked }
namespace Rows
def none {H : Type} : Left H := { results := [], args := [] }

/-- 'bellwetherlaw36.TraceReads': WHATEVER THE INPUT: true; the input reads as it did. -/
def traceReadsSpec : ChangeSpec := { name := "traceReads", fn := fun _ => fun
  | [d1, d2, d3, d4] => { results := [.lit (.bool true)], args := [d1, d2, d3, d4] }
  | _ => none }
def traceReadsRow : OpenClaim := { program := "ytmdnmofcgmmfbaa", sum := "bdc172215c1ba8d78d0fb5ae10f6a903c27514e01962ef3df6e2a670f3a135d6", func := "bellwether/bellwetherlaw36.TraceReads", spec := "traceReads", unfollowed := true, recurses := true, apart := false }
def TraceReadsSaid : Prop := traceReadsRow.holds Try.pinned (OpenSpec.ofChange traceReadsSpec)

/-- ITS FALSE NEIGHBOUR: 'it returns false'. Refute it at one input. -/
def traceReadsWrong : ChangeSpec := { name := "traceReads", fn := fun _ => fun
  | [d1, d2, d3, d4] => { results := [.lit (.bool false)], args := [d1, d2, d3, d4] }
  | _ => none }
def TraceReadsWrongFalsely : Prop := traceReadsRow.holds Try.pinned (OpenSpec.ofChange traceReadsWrong)

/-- 'bellwetherlaw36.TraceCycles': WHATEVER THE INPUT: true; the input reads as it did. -/
def traceCyclesSpec : ChangeSpec := { name := "traceCycles", fn := fun _ => fun
  | [d1, d2] => { results := [.lit (.bool true)], args := [d1, d2] }
  | _ => none }
def traceCyclesRow : OpenClaim := { program := "ytmdnmofcgmmfbaa", sum := "bdc172215c1ba8d78d0fb5ae10f6a903c27514e01962ef3df6e2a670f3a135d6", func := "bellwether/bellwetherlaw36.TraceCycles", spec := "traceCycles", unfollowed := true, recurses := true, apart := false }
def TraceCyclesSaid : Prop := traceCyclesRow.holds Try.pinned (OpenSpec.ofChange traceCyclesSpec)

/-- ITS FALSE NEIGHBOUR: 'it returns false'. Refute it at one input. -/
def traceCyclesWrong : ChangeSpec := { name := "traceCycles", fn := fun _ => fun
  | [d1, d2] => { results := [.lit (.bool false)], args := [d1, d2] }
  | _ => none }
def TraceCyclesWrongFalsely : Prop := traceCyclesRow.holds Try.pinned (OpenSpec.ofChange traceCyclesWrong)

/-- 'bellwetherlaw36.TraceAll': WHATEVER THE INPUT: true; the input reads as it did. -/
def traceAllSpec : ChangeSpec := { name := "traceAll", fn := fun _ => fun
  | [d1, d2] => { results := [.lit (.bool true)], args := [d1, d2] }
  | _ => none }
def traceAllRow : OpenClaim := { program := "ytmdnmofcgmmfbaa", sum := "bdc172215c1ba8d78d0fb5ae10f6a903c27514e01962ef3df6e2a670f3a135d6", func := "bellwether/bellwetherlaw36.TraceAll", spec := "traceAll", unfollowed := true, recurses := true, apart := false }
def TraceAllSaid : Prop := traceAllRow.holds Try.pinned (OpenSpec.ofChange traceAllSpec)

/-- ITS FALSE NEIGHBOUR: 'it returns false'. Refute it at one input. -/
def traceAllWrong : ChangeSpec := { name := "traceAll", fn := fun _ => fun
  | [d1, d2] => { results := [.lit (.bool false)], args := [d1, d2] }
  | _ => none }
def TraceAllWrongFalsely : Prop := traceAllRow.holds Try.pinned (OpenSpec.ofChange traceAllWrong)

/-- 'bellwetherlaw37.WindowRegular': WHATEVER THE INPUT: true; the input reads as it did. -/
def windowRegularSpec : ChangeSpec := { name := "windowRegular", fn := fun _ => fun
  | [d1, d2, d3, d4] => { results := [.lit (.bool true)], args := [d1, d2, d3, d4] }
  | _ => none }
def windowRegularRow : OpenClaim := { program := "ytmdnmofcgmmfbaa", sum := "bdc172215c1ba8d78d0fb5ae10f6a903c27514e01962ef3df6e2a670f3a135d6", func := "bellwether/bellwetherlaw37.WindowRegular", spec := "windowRegular", apart := false }
def WindowRegularSaid : Prop := windowRegularRow.holds Try.pinned (OpenSpec.ofChange windowRegularSpec)

/-- ITS FALSE NEIGHBOUR: 'it returns false'. Refute it at one input. -/
def windowRegularWrong : ChangeSpec := { name := "windowRegular", fn := fun _ => fun
  | [d1, d2, d3, d4] => { results := [.lit (.bool false)], args := [d1, d2, d3, d4] }
  | _ => none }
def WindowRegularWrongFalsely : Prop := windowRegularRow.holds Try.pinned (OpenSpec.ofChange windowRegularWrong)

/-- 'bellwetherlaw37.WindowSince': WHATEVER THE INPUT: true; the input reads as it did. -/
def windowSinceSpec : ChangeSpec := { name := "windowSince", fn := fun _ => fun
  | [d1, d2, d3, d4] => { results := [.lit (.bool true)], args := [d1, d2, d3, d4] }
  | _ => none }
def windowSinceRow : OpenClaim := { program := "ytmdnmofcgmmfbaa", sum := "bdc172215c1ba8d78d0fb5ae10f6a903c27514e01962ef3df6e2a670f3a135d6", func := "bellwether/bellwetherlaw37.WindowSince", spec := "windowSince", apart := false }
def WindowSinceSaid : Prop := windowSinceRow.holds Try.pinned (OpenSpec.ofChange windowSinceSpec)

/-- ITS FALSE NEIGHBOUR: 'it returns false'. Refute it at one input. -/
def windowSinceWrong : ChangeSpec := { name := "windowSince", fn := fun _ => fun
  | [d1, d2, d3, d4] => { results := [.lit (.bool false)], args := [d1, d2, d3, d4] }
  | _ => none }
def WindowSinceWrongFalsely : Prop := windowSinceRow.holds Try.pinned (OpenSpec.ofChange windowSinceWrong)

/-- 'bellwetherlaw37.WindowApart': WHATEVER THE INPUT: true; the input reads as it did. -/
def windowApartSpec : ChangeSpec := { name := "windowApart", fn := fun _ => fun
  | [d1, d2, d3, d4] => { results := [.lit (.bool true)], args := [d1, d2, d3, d4] }
  | _ => none }
def windowApartRow : OpenClaim := { program := "ytmdnmofcgmmfbaa", sum := "bdc172215c1ba8d78d0fb5ae10f6a903c27514e01962ef3df6e2a670f3a135d6", func := "bellwether/bellwetherlaw37.WindowApart", spec := "windowApart", apart := false }
def WindowApartSaid : Prop := windowApartRow.holds Try.pinned (OpenSpec.ofChange windowApartSpec)

/-- ITS FALSE NEIGHBOUR: 'it returns false'. Refute it at one input. -/
def windowApartWrong : ChangeSpec := { name := "windowApart", fn := fun _ => fun
  | [d1, d2, d3, d4] => { results := [.lit (.bool false)], args := [d1, d2, d3, d4] }
  | _ => none }
def WindowApartWrongFalsely : Prop := windowApartRow.holds Try.pinned (OpenSpec.ofChange windowApartWrong)

/- THE SECOND FORM. 'bulk': how many values and letters a reading holds, each counted each time it is reached (what is shared counts as often as it is met; a slice's spare places count too). A statement '..UptoSaid' is the law's where the arguments, and the package variables that the reading takes, are together of bulk at most 1048576: NARROWER than '..Said'. Prove '..Said' where nothing that the law and all that it calls make is longer than what came in: it says more and counts as full. Else prove '..UptoSaid'. A law counts once. -/
mutual
def uptoBulk {H : Type} : DataW H → Nat
  | .lit (.string bytes) => bytes.length + 1
  | .lit _ => 1
  | .nil => 1
  | .ptr d => uptoBulk d + 1
  | .slice elems spare => uptoBulkAll elems + uptoBulkAll spare + 1
  | .agg parts => uptoBulkAll parts + 1
  | .iface _ d => uptoBulk d + 1
  | .map entries => uptoBulkEntries entries + 1
  | .held _ => 1
def uptoBulkAll {H : Type} : List (DataW H) → Nat
  | [] => 0
  | d :: r => uptoBulk d + uptoBulkAll r
def uptoBulkEntries {H : Type} : List (Lit × DataW H) → Nat
  | [] => 0
  | x :: r => uptoBulkEntry x + uptoBulkEntries r
def uptoBulkEntry {H : Type} : Lit × DataW H → Nat
  | (.string bytes, d) => bytes.length + uptoBulk d + 1
  | (_, d) => uptoBulk d + 1
 end
def uptoSmall : (H : Type) → List (DataW H) → Bool := fun _ ds => decide (uptoBulkAll ds ≤ 1048576)
def OpenSpec.upto (s : _root_.Go.ChangeSpec) : _root_.Go.OpenSpec := { _root_.Go.OpenSpec.ofChange s with cond := some uptoSmall }

/-- 'bellwetherlaw36.TraceReads', WHERE WHAT IT READS IS OF BULK AT MOST 1048576: true; the input reads as it did. -/
def traceReadsUptoRow : OpenClaim := { program := "ytmdnmofcgmmfbaa", sum := "bdc172215c1ba8d78d0fb5ae10f6a903c27514e01962ef3df6e2a670f3a135d6", func := "bellwether/bellwetherlaw36.TraceReads", spec := "traceReads", unfollowed := true, recurses := true, apart := false, narrowed := true }
def TraceReadsUptoSaid : Prop := traceReadsUptoRow.holds Try.pinned (OpenSpec.upto traceReadsSpec)

/-- 'bellwetherlaw36.TraceCycles', WHERE WHAT IT READS IS OF BULK AT MOST 1048576: true; the input reads as it did. -/
def traceCyclesUptoRow : OpenClaim := { program := "ytmdnmofcgmmfbaa", sum := "bdc172215c1ba8d78d0fb5ae10f6a903c27514e01962ef3df6e2a670f3a135d6", func := "bellwether/bellwetherlaw36.TraceCycles", spec := "traceCycles", unfollowed := true, recurses := true, apart := false, narrowed := true }
def TraceCyclesUptoSaid : Prop := traceCyclesUptoRow.holds Try.pinned (OpenSpec.upto traceCyclesSpec)

/-- 'bellwetherlaw36.TraceAll', WHERE WHAT IT READS IS OF BULK AT MOST 1048576: true; the input reads as it did. -/
def traceAllUptoRow : OpenClaim := { program := "ytmdnmofcgmmfbaa", sum := "bdc172215c1ba8d78d0fb5ae10f6a903c27514e01962ef3df6e2a670f3a135d6", func := "bellwether/bellwetherlaw36.TraceAll", spec := "traceAll", unfollowed := true, recurses := true, apart := false, narrowed := true }
def TraceAllUptoSaid : Prop := traceAllUptoRow.holds Try.pinned (OpenSpec.upto traceAllSpec)

/-- 'bellwetherlaw37.WindowRegular', WHERE WHAT IT READS IS OF BULK AT MOST 1048576: true; the input reads as it did. -/
def windowRegularUptoRow : OpenClaim := { program := "ytmdnmofcgmmfbaa", sum := "bdc172215c1ba8d78d0fb5ae10f6a903c27514e01962ef3df6e2a670f3a135d6", func := "bellwether/bellwetherlaw37.WindowRegular", spec := "windowRegular", apart := false, narrowed := true }
def WindowRegularUptoSaid : Prop := windowRegularUptoRow.holds Try.pinned (OpenSpec.upto windowRegularSpec)

/-- 'bellwetherlaw37.WindowSince', WHERE WHAT IT READS IS OF BULK AT MOST 1048576: true; the input reads as it did. -/
def windowSinceUptoRow : OpenClaim := { program := "ytmdnmofcgmmfbaa", sum := "bdc172215c1ba8d78d0fb5ae10f6a903c27514e01962ef3df6e2a670f3a135d6", func := "bellwether/bellwetherlaw37.WindowSince", spec := "windowSince", apart := false, narrowed := true }
def WindowSinceUptoSaid : Prop := windowSinceUptoRow.holds Try.pinned (OpenSpec.upto windowSinceSpec)

/-- 'bellwetherlaw37.WindowApart', WHERE WHAT IT READS IS OF BULK AT MOST 1048576: true; the input reads as it did. -/
def windowApartUptoRow : OpenClaim := { program := "ytmdnmofcgmmfbaa", sum := "bdc172215c1ba8d78d0fb5ae10f6a903c27514e01962ef3df6e2a670f3a135d6", func := "bellwether/bellwetherlaw37.WindowApart", spec := "windowApart", apart := false, narrowed := true }
def WindowApartUptoSaid : Prop := windowApartUptoRow.holds Try.pinned (OpenSpec.upto windowApartSpec)

end Rows
end Go.Proofs.Ytmdnmofcgmmfbaa
