/-
  No cell of these rows narrows 'for every input' (looked for: loops, veiled, ifaces, maps, wideKeys, modest, calm, conditions, laid).
  DERIVED. THE GIVEN ROWS OF THIS SEAT. 9 by the template 'for every input the law returns true; each argument reads behind the call as it read before'; 0 by the template 'total and deterministic' (their statements: YtbfnkdgjcpcmbaaTotals.lean).
  GIVEN WITH THE SEED: the statements are not yours to turn. If you find one false, say at which input.
  Laid BY PROGRAM, IN A SANDBOX (cutbox-rows.mjs): the forced cells as the released guide's own fill.sh prints them over the translation 1a97cd836598aa61… (all of the seat's roots in one cut). By AI agents, Wed Nov 11 2026. No macro, syntax, notation, axiom, sorry.
-/
import Derived.Test.YtbfnkdgjcpcmbaaChecked
import GoSem.Claim
import GoSem.ClaimJoined
import GoSem.ClaimMapViews
import Derived.JoinedTies
import Derived.KernelRfl
namespace Go.Proofs.Ytbfnkdgjcpcmbaa
/- THE CELL 'sum', in the pinned program and in every row, IS THE sha256 OF THE DUMP (.gsa) THAT YtbfnkdgjcpcmbaaProg.lean LOADS. Nothing in Lean hashes anything: it is a label: what it is worth is what the hold of that sum in a sandbox is worth. -/
noncomputable def Try.pinned : Pinned := { name := "ytbfnkdgjcpcmbaa", sum := "1a97cd836598aa61e62fd248bf950355d8ebbe11f9ebc926ec4f0b137dde894e", checked := Try.checked }
namespace Rows
def none {H : Type} : Left H := { results := [], args := [] }

/-- 'bellwetherlaw10.PacketRight': WHATEVER THE INPUT: true; the input reads as it did. -/
def packetRightSpec : ChangeSpec := { name := "packetRight", fn := fun _ => fun
  | [d1, d2] => { results := [.lit (.bool true)], args := [d1, d2] }
  | _ => none }
def packetRightRow : OpenClaim := { program := "ytbfnkdgjcpcmbaa", sum := "1a97cd836598aa61e62fd248bf950355d8ebbe11f9ebc926ec4f0b137dde894e", func := "bellwether/bellwetherlaw10.PacketRight", spec := "packetRight", inPlace := ["internal/abi.NoEscape", "internal/bytealg.MakeNoZero"], apart := false }
def PacketRightSaid : Prop := packetRightRow.holds Try.pinned (OpenSpec.ofChange packetRightSpec)

/-- ITS FALSE NEIGHBOUR: 'it returns false'. Refute it at one input. -/
def packetRightWrong : ChangeSpec := { name := "packetRight", fn := fun _ => fun
  | [d1, d2] => { results := [.lit (.bool false)], args := [d1, d2] }
  | _ => none }
def PacketRightWrongFalsely : Prop := packetRightRow.holds Try.pinned (OpenSpec.ofChange packetRightWrong)

/-- 'bellwetherlaw10.PacketParts': WHATEVER THE INPUT: true; the input reads as it did. -/
def packetPartsSpec : ChangeSpec := { name := "packetParts", fn := fun _ => fun
  | [d1, d2, d3, d4] => { results := [.lit (.bool true)], args := [d1, d2, d3, d4] }
  | _ => none }
def packetPartsRow : OpenClaim := { program := "ytbfnkdgjcpcmbaa", sum := "1a97cd836598aa61e62fd248bf950355d8ebbe11f9ebc926ec4f0b137dde894e", func := "bellwether/bellwetherlaw10.PacketParts", spec := "packetParts", inPlace := ["internal/abi.NoEscape", "internal/bytealg.MakeNoZero"], apart := false }
def PacketPartsSaid : Prop := packetPartsRow.holds Try.pinned (OpenSpec.ofChange packetPartsSpec)

/-- ITS FALSE NEIGHBOUR: 'it returns false'. Refute it at one input. -/
def packetPartsWrong : ChangeSpec := { name := "packetParts", fn := fun _ => fun
  | [d1, d2, d3, d4] => { results := [.lit (.bool false)], args := [d1, d2, d3, d4] }
  | _ => none }
def PacketPartsWrongFalsely : Prop := packetPartsRow.holds Try.pinned (OpenSpec.ofChange packetPartsWrong)

/-- 'bellwetherlaw10.PacketStrips': WHATEVER THE INPUT: true; the input reads as it did. -/
def packetStripsSpec : ChangeSpec := { name := "packetStrips", fn := fun _ => fun
  | [d1, d2, d3, d4] => { results := [.lit (.bool true)], args := [d1, d2, d3, d4] }
  | _ => none }
def packetStripsRow : OpenClaim := { program := "ytbfnkdgjcpcmbaa", sum := "1a97cd836598aa61e62fd248bf950355d8ebbe11f9ebc926ec4f0b137dde894e", func := "bellwether/bellwetherlaw10.PacketStrips", spec := "packetStrips", inPlace := ["internal/abi.NoEscape", "internal/bytealg.MakeNoZero"], apart := false }
def PacketStripsSaid : Prop := packetStripsRow.holds Try.pinned (OpenSpec.ofChange packetStripsSpec)

/-- ITS FALSE NEIGHBOUR: 'it returns false'. Refute it at one input. -/
def packetStripsWrong : ChangeSpec := { name := "packetStrips", fn := fun _ => fun
  | [d1, d2, d3, d4] => { results := [.lit (.bool false)], args := [d1, d2, d3, d4] }
  | _ => none }
def PacketStripsWrongFalsely : Prop := packetStripsRow.holds Try.pinned (OpenSpec.ofChange packetStripsWrong)

/-- 'bellwetherlaw10.PacketDigits': WHATEVER THE INPUT: true; the input reads as it did. -/
def packetDigitsSpec : ChangeSpec := { name := "packetDigits", fn := fun _ => fun
  | [d1, d2, d3, d4] => { results := [.lit (.bool true)], args := [d1, d2, d3, d4] }
  | _ => none }
def packetDigitsRow : OpenClaim := { program := "ytbfnkdgjcpcmbaa", sum := "1a97cd836598aa61e62fd248bf950355d8ebbe11f9ebc926ec4f0b137dde894e", func := "bellwether/bellwetherlaw10.PacketDigits", spec := "packetDigits", inPlace := ["internal/abi.NoEscape", "internal/bytealg.MakeNoZero"], apart := false }
def PacketDigitsSaid : Prop := packetDigitsRow.holds Try.pinned (OpenSpec.ofChange packetDigitsSpec)

/-- ITS FALSE NEIGHBOUR: 'it returns false'. Refute it at one input. -/
def packetDigitsWrong : ChangeSpec := { name := "packetDigits", fn := fun _ => fun
  | [d1, d2, d3, d4] => { results := [.lit (.bool false)], args := [d1, d2, d3, d4] }
  | _ => none }
def PacketDigitsWrongFalsely : Prop := packetDigitsRow.holds Try.pinned (OpenSpec.ofChange packetDigitsWrong)

/-- 'bellwetherlaw11.WireWrites': WHATEVER THE INPUT: true; the input reads as it did. -/
def wireWritesSpec : ChangeSpec := { name := "wireWrites", fn := fun _ => fun
  | [d1, d2] => { results := [.lit (.bool true)], args := [d1, d2] }
  | _ => none }
def wireWritesRow : OpenClaim := { program := "ytbfnkdgjcpcmbaa", sum := "1a97cd836598aa61e62fd248bf950355d8ebbe11f9ebc926ec4f0b137dde894e", func := "bellwether/bellwetherlaw11.WireWrites", spec := "wireWrites", apart := false }
def WireWritesSaid : Prop := wireWritesRow.holds Try.pinned (OpenSpec.ofChange wireWritesSpec)

/-- ITS FALSE NEIGHBOUR: 'it returns false'. Refute it at one input. -/
def wireWritesWrong : ChangeSpec := { name := "wireWrites", fn := fun _ => fun
  | [d1, d2] => { results := [.lit (.bool false)], args := [d1, d2] }
  | _ => none }
def WireWritesWrongFalsely : Prop := wireWritesRow.holds Try.pinned (OpenSpec.ofChange wireWritesWrong)

/-- 'bellwetherlaw11.WireReads': WHATEVER THE INPUT: true; the input reads as it did. -/
def wireReadsSpec : ChangeSpec := { name := "wireReads", fn := fun _ => fun
  | [d1, d2] => { results := [.lit (.bool true)], args := [d1, d2] }
  | _ => none }
def wireReadsRow : OpenClaim := { program := "ytbfnkdgjcpcmbaa", sum := "1a97cd836598aa61e62fd248bf950355d8ebbe11f9ebc926ec4f0b137dde894e", func := "bellwether/bellwetherlaw11.WireReads", spec := "wireReads", apart := false }
def WireReadsSaid : Prop := wireReadsRow.holds Try.pinned (OpenSpec.ofChange wireReadsSpec)

/-- ITS FALSE NEIGHBOUR: 'it returns false'. Refute it at one input. -/
def wireReadsWrong : ChangeSpec := { name := "wireReads", fn := fun _ => fun
  | [d1, d2] => { results := [.lit (.bool false)], args := [d1, d2] }
  | _ => none }
def WireReadsWrongFalsely : Prop := wireReadsRow.holds Try.pinned (OpenSpec.ofChange wireReadsWrong)

/-- 'bellwetherlaw11.WireBack': WHATEVER THE INPUT: true; the input reads as it did. -/
def wireBackSpec : ChangeSpec := { name := "wireBack", fn := fun _ => fun
  | [d1, d2] => { results := [.lit (.bool true)], args := [d1, d2] }
  | _ => none }
def wireBackRow : OpenClaim := { program := "ytbfnkdgjcpcmbaa", sum := "1a97cd836598aa61e62fd248bf950355d8ebbe11f9ebc926ec4f0b137dde894e", func := "bellwether/bellwetherlaw11.WireBack", spec := "wireBack", apart := false }
def WireBackSaid : Prop := wireBackRow.holds Try.pinned (OpenSpec.ofChange wireBackSpec)

/-- ITS FALSE NEIGHBOUR: 'it returns false'. Refute it at one input. -/
def wireBackWrong : ChangeSpec := { name := "wireBack", fn := fun _ => fun
  | [d1, d2] => { results := [.lit (.bool false)], args := [d1, d2] }
  | _ => none }
def WireBackWrongFalsely : Prop := wireBackRow.holds Try.pinned (OpenSpec.ofChange wireBackWrong)

/-- 'bellwetherlaw11.WireOnly': WHATEVER THE INPUT: true; the input reads as it did. -/
def wireOnlySpec : ChangeSpec := { name := "wireOnly", fn := fun _ => fun
  | [d1, d2] => { results := [.lit (.bool true)], args := [d1, d2] }
  | _ => none }
def wireOnlyRow : OpenClaim := { program := "ytbfnkdgjcpcmbaa", sum := "1a97cd836598aa61e62fd248bf950355d8ebbe11f9ebc926ec4f0b137dde894e", func := "bellwether/bellwetherlaw11.WireOnly", spec := "wireOnly", apart := false }
def WireOnlySaid : Prop := wireOnlyRow.holds Try.pinned (OpenSpec.ofChange wireOnlySpec)

/-- ITS FALSE NEIGHBOUR: 'it returns false'. Refute it at one input. -/
def wireOnlyWrong : ChangeSpec := { name := "wireOnly", fn := fun _ => fun
  | [d1, d2] => { results := [.lit (.bool false)], args := [d1, d2] }
  | _ => none }
def WireOnlyWrongFalsely : Prop := wireOnlyRow.holds Try.pinned (OpenSpec.ofChange wireOnlyWrong)

/-- 'bellwetherlaw11.WireTells': WHATEVER THE INPUT: true; the input reads as it did. -/
def wireTellsSpec : ChangeSpec := { name := "wireTells", fn := fun _ => fun
  | [d1, d2, d3, d4] => { results := [.lit (.bool true)], args := [d1, d2, d3, d4] }
  | _ => none }
def wireTellsRow : OpenClaim := { program := "ytbfnkdgjcpcmbaa", sum := "1a97cd836598aa61e62fd248bf950355d8ebbe11f9ebc926ec4f0b137dde894e", func := "bellwether/bellwetherlaw11.WireTells", spec := "wireTells", apart := false }
def WireTellsSaid : Prop := wireTellsRow.holds Try.pinned (OpenSpec.ofChange wireTellsSpec)

/-- ITS FALSE NEIGHBOUR: 'it returns false'. Refute it at one input. -/
def wireTellsWrong : ChangeSpec := { name := "wireTells", fn := fun _ => fun
  | [d1, d2, d3, d4] => { results := [.lit (.bool false)], args := [d1, d2, d3, d4] }
  | _ => none }
def WireTellsWrongFalsely : Prop := wireTellsRow.holds Try.pinned (OpenSpec.ofChange wireTellsWrong)

/- THE SECOND FORM. 'bulk': how many values and letters a reading holds, each counted each time it is reached (what is shared counts as often as it is met; a slice's spare places count too). A statement '..UptoSaid' is the law's where the arguments, and the package variables that the reading takes, are together of bulk at most 1048576: NARROWER than '..Said'. Prove '..Said' where nothing that the law and all that it calls make is longer than what came in: it says more and counts as full. Else prove '..UptoSaid'. A law counts once. -/
mutual
def uptoBulk {H : Type} : DataW H → Nat
  | .lit (.string bytes) => bytes.length + 1
  | .lit _ => 1
  | .nil => 1
  | .ptr d => uptoBulk d + 1
  | .slice elems spare => uptoBulkAll elems + uptoBulkAll spare + 1
  | .agg parts => uptoBulkAll parts + 1
  | .iface _ d => uptoBulk d + 1
  | .map entries => uptoBulkEntries entries + 1
  | .held _ => 1
def uptoBulkAll {H : Type} : List (DataW H) → Nat
  | [] => 0
  | d :: r => uptoBulk d + uptoBulkAll r
def uptoBulkEntries {H : Type} : List (Lit × DataW H) → Nat
  | [] => 0
  | x :: r => uptoBulkEntry x + uptoBulkEntries r
def uptoBulkEntry {H : Type} : Lit × DataW H → Nat
  | (.string bytes, d) => bytes.length + uptoBulk d + 1
  | (_, d) => uptoBulk d + 1
 end
def uptoSmall : (H : Type) → List (DataW H) → Bool := fun _ ds => decide (uptoBulkAll ds ≤ 1048576)
def OpenSpec.upto (s : _root_.Go.ChangeSpec) : _root_.Go.OpenSpec := { _root_.Go.OpenSpec.ofChange s with cond := some uptoSmall }

/-- 'bellwetherlaw10.PacketRight', WHERE WHAT IT READS IS OF BULK AT MOST 1048576: true; the input reads as it did. -/
def packetRightUptoRow : OpenClaim := { program := "ytbfnkdgjcpcmbaa", sum := "1a97cd836598aa61e62fd248bf950355d8ebbe11f9ebc926ec4f0b137dde894e", func := "bellwether/bellwetherlaw10.PacketRight", spec := "packetRight", inPlace := ["internal/abi.NoEscape", "internal/bytealg.MakeNoZero"], apart := false, narrowed := true }
def PacketRightUptoSaid : Prop := packetRightUptoRow.holds Try.pinned (OpenSpec.upto packetRightSpec)

/-- 'bellwetherlaw10.PacketParts', WHERE WHAT IT READS IS OF BULK AT MOST 1048576: true; the input reads as it did. -/
def packetPartsUptoRow : OpenClaim := { program := "ytbfnkdgjcpcmbaa", sum := "1a97cd836598aa61e62fd248bf950355d8ebbe11f9ebc926ec4f0b137dde894e", func := "bellwether/bellwetherlaw10.PacketParts", spec := "packetParts", inPlace := ["internal/abi.NoEscape", "internal/bytealg.MakeNoZero"], apart := false, narrowed := true }
def PacketPartsUptoSaid : Prop := packetPartsUptoRow.holds Try.pinned (OpenSpec.upto packetPartsSpec)

/-- 'bellwetherlaw10.PacketStrips', WHERE WHAT IT READS IS OF BULK AT MOST 1048576: true; the input reads as it did. -/
def packetStripsUptoRow : OpenClaim := { program := "ytbfnkdgjcpcmbaa", sum := "1a97cd836598aa61e62fd248bf950355d8ebbe11f9ebc926ec4f0b137dde894e", func := "bellwether/bellwetherlaw10.PacketStrips", spec := "packetStrips", inPlace := ["internal/abi.NoEscape", "internal/bytealg.MakeNoZero"], apart := false, narrowed := true }
def PacketStripsUptoSaid : Prop := packetStripsUptoRow.holds Try.pinned (OpenSpec.upto packetStripsSpec)

/-- 'bellwetherlaw10.PacketDigits', WHERE WHAT IT READS IS OF BULK AT MOST 1048576: true; the input reads as it did. -/
def packetDigitsUptoRow : OpenClaim := { program := "ytbfnkdgjcpcmbaa", sum := "1a97cd836598aa61e62fd248bf950355d8ebbe11f9ebc926ec4f0b137dde894e", func := "bellwether/bellwetherlaw10.PacketDigits", spec := "packetDigits", inPlace := ["internal/abi.NoEscape", "internal/bytealg.MakeNoZero"], apart := false, narrowed := true }
def PacketDigitsUptoSaid : Prop := packetDigitsUptoRow.holds Try.pinned (OpenSpec.upto packetDigitsSpec)

/-- 'bellwetherlaw11.WireWrites', WHERE WHAT IT READS IS OF BULK AT MOST 1048576: true; the input reads as it did. -/
def wireWritesUptoRow : OpenClaim := { program := "ytbfnkdgjcpcmbaa", sum := "1a97cd836598aa61e62fd248bf950355d8ebbe11f9ebc926ec4f0b137dde894e", func := "bellwether/bellwetherlaw11.WireWrites", spec := "wireWrites", apart := false, narrowed := true }
def WireWritesUptoSaid : Prop := wireWritesUptoRow.holds Try.pinned (OpenSpec.upto wireWritesSpec)

/-- 'bellwetherlaw11.WireReads', WHERE WHAT IT READS IS OF BULK AT MOST 1048576: true; the input reads as it did. -/
def wireReadsUptoRow : OpenClaim := { program := "ytbfnkdgjcpcmbaa", sum := "1a97cd836598aa61e62fd248bf950355d8ebbe11f9ebc926ec4f0b137dde894e", func := "bellwether/bellwetherlaw11.WireReads", spec := "wireReads", apart := false, narrowed := true }
def WireReadsUptoSaid : Prop := wireReadsUptoRow.holds Try.pinned (OpenSpec.upto wireReadsSpec)

/-- 'bellwetherlaw11.WireBack', WHERE WHAT IT READS IS OF BULK AT MOST 1048576: true; the input reads as it did. -/
def wireBackUptoRow : OpenClaim := { program := "ytbfnkdgjcpcmbaa", sum := "1a97cd836598aa61e62fd248bf950355d8ebbe11f9ebc926ec4f0b137dde894e", func := "bellwether/bellwetherlaw11.WireBack", spec := "wireBack", apart := false, narrowed := true }
def WireBackUptoSaid : Prop := wireBackUptoRow.holds Try.pinned (OpenSpec.upto wireBackSpec)

/-- 'bellwetherlaw11.WireOnly', WHERE WHAT IT READS IS OF BULK AT MOST 1048576: true; the input reads as it did. -/
def wireOnlyUptoRow : OpenClaim := { program := "ytbfnkdgjcpcmbaa", sum := "1a97cd836598aa61e62fd248bf950355d8ebbe11f9ebc926ec4f0b137dde894e", func := "bellwether/bellwetherlaw11.WireOnly", spec := "wireOnly", apart := false, narrowed := true }
def WireOnlyUptoSaid : Prop := wireOnlyUptoRow.holds Try.pinned (OpenSpec.upto wireOnlySpec)

/-- 'bellwetherlaw11.WireTells', WHERE WHAT IT READS IS OF BULK AT MOST 1048576: true; the input reads as it did. -/
def wireTellsUptoRow : OpenClaim := { program := "ytbfnkdgjcpcmbaa", sum := "1a97cd836598aa61e62fd248bf950355d8ebbe11f9ebc926ec4f0b137dde894e", func := "bellwether/bellwetherlaw11.WireTells", spec := "wireTells", apart := false, narrowed := true }
def WireTellsUptoSaid : Prop := wireTellsUptoRow.holds Try.pinned (OpenSpec.upto wireTellsSpec)

end Rows
end Go.Proofs.Ytbfnkdgjcpcmbaa
