/-
  No cell of these rows narrows 'for every input' (looked for: loops, veiled, ifaces, maps, wideKeys, modest, calm, conditions, laid).
  DERIVED. THE GIVEN ROWS OF THIS SEAT. 12 by the template 'for every input the law returns true; each argument reads behind the call as it read before'; 0 by the template 'total and deterministic' (their statements: YtfannnojhkkaiaaTotals.lean).
  GIVEN WITH THE SEED: the statements are not yours to turn. If you find one false, say at which input.
  Laid BY PROGRAM, IN A SANDBOX (cutbox-rows.mjs): the forced cells as the released guide's own fill.sh prints them over the translation 9e45495026b8bb79… (all of the seat's roots in one cut). By AI agents, Wed Nov 11 2026. No macro, syntax, notation, axiom, sorry.
-/
import Derived.Test.YtfannnojhkkaiaaChecked
import GoSem.Claim
import GoSem.ClaimJoined
import GoSem.ClaimMapViews
import Derived.JoinedTies
import Derived.KernelRfl
namespace Go.Proofs.Ytfannnojhkkaiaa
/- THE CELL 'sum', in the pinned program and in every row, IS THE sha256 OF THE DUMP (.gsa) THAT YtfannnojhkkaiaaProg.lean LOADS. Nothing in Lean hashes anything: it is a label: what it is worth is what the hold of that sum in a sandbox is worth. -/
noncomputable def Try.pinned : Pinned := { name := "ytfannnojhkkaiaa", sum := "9e45495026b8bb7977cd10785c5ed5e4492fe11297d67d95ac233848f3e07a89", checked := Try.checked }
namespace Rows
def none {H : Type} : Left H := { results := [], args := [] }

/-- 'bellwetherlaw13.TallyCounts': WHATEVER THE INPUT: true; the input reads as it did. -/
def tallyCountsSpec : ChangeSpec := { name := "tallyCounts", fn := fun _ => fun
  | [d1, d2, d3, d4] => { results := [.lit (.bool true)], args := [d1, d2, d3, d4] }
  | _ => none }
def tallyCountsRow : OpenClaim := { program := "ytfannnojhkkaiaa", sum := "9e45495026b8bb7977cd10785c5ed5e4492fe11297d67d95ac233848f3e07a89", func := "bellwether/bellwetherlaw13.TallyCounts", spec := "tallyCounts", apart := false }
def TallyCountsSaid : Prop := tallyCountsRow.holds Try.pinned (OpenSpec.ofChange tallyCountsSpec)

/-- ITS FALSE NEIGHBOUR: 'it returns false'. Refute it at one input. -/
def tallyCountsWrong : ChangeSpec := { name := "tallyCounts", fn := fun _ => fun
  | [d1, d2, d3, d4] => { results := [.lit (.bool false)], args := [d1, d2, d3, d4] }
  | _ => none }
def TallyCountsWrongFalsely : Prop := tallyCountsRow.holds Try.pinned (OpenSpec.ofChange tallyCountsWrong)

/-- 'bellwetherlaw13.TallyMeet': WHATEVER THE INPUT: true; the input reads as it did. -/
def tallyMeetSpec : ChangeSpec := { name := "tallyMeet", fn := fun _ => fun
  | [d1, d2, d3, d4] => { results := [.lit (.bool true)], args := [d1, d2, d3, d4] }
  | _ => none }
def tallyMeetRow : OpenClaim := { program := "ytfannnojhkkaiaa", sum := "9e45495026b8bb7977cd10785c5ed5e4492fe11297d67d95ac233848f3e07a89", func := "bellwether/bellwetherlaw13.TallyMeet", spec := "tallyMeet", apart := false }
def TallyMeetSaid : Prop := tallyMeetRow.holds Try.pinned (OpenSpec.ofChange tallyMeetSpec)

/-- ITS FALSE NEIGHBOUR: 'it returns false'. Refute it at one input. -/
def tallyMeetWrong : ChangeSpec := { name := "tallyMeet", fn := fun _ => fun
  | [d1, d2, d3, d4] => { results := [.lit (.bool false)], args := [d1, d2, d3, d4] }
  | _ => none }
def TallyMeetWrongFalsely : Prop := tallyMeetRow.holds Try.pinned (OpenSpec.ofChange tallyMeetWrong)

/-- 'bellwetherlaw13.TallyKeeps': WHATEVER THE INPUT: true; the input reads as it did. -/
def tallyKeepsSpec : ChangeSpec := { name := "tallyKeeps", fn := fun _ => fun
  | [d1, d2, d3] => { results := [.lit (.bool true)], args := [d1, d2, d3] }
  | _ => none }
def tallyKeepsRow : OpenClaim := { program := "ytfannnojhkkaiaa", sum := "9e45495026b8bb7977cd10785c5ed5e4492fe11297d67d95ac233848f3e07a89", func := "bellwether/bellwetherlaw13.TallyKeeps", spec := "tallyKeeps", apart := false }
def TallyKeepsSaid : Prop := tallyKeepsRow.holds Try.pinned (OpenSpec.ofChange tallyKeepsSpec)

/-- ITS FALSE NEIGHBOUR: 'it returns false'. Refute it at one input. -/
def tallyKeepsWrong : ChangeSpec := { name := "tallyKeeps", fn := fun _ => fun
  | [d1, d2, d3] => { results := [.lit (.bool false)], args := [d1, d2, d3] }
  | _ => none }
def TallyKeepsWrongFalsely : Prop := tallyKeepsRow.holds Try.pinned (OpenSpec.ofChange tallyKeepsWrong)

/-- 'bellwetherlaw13.TallyOrder': WHATEVER THE INPUT: true; the input reads as it did. -/
def tallyOrderSpec : ChangeSpec := { name := "tallyOrder", fn := fun _ => fun
  | [d1, d2, d3] => { results := [.lit (.bool true)], args := [d1, d2, d3] }
  | _ => none }
def tallyOrderRow : OpenClaim := { program := "ytfannnojhkkaiaa", sum := "9e45495026b8bb7977cd10785c5ed5e4492fe11297d67d95ac233848f3e07a89", func := "bellwether/bellwetherlaw13.TallyOrder", spec := "tallyOrder", apart := false }
def TallyOrderSaid : Prop := tallyOrderRow.holds Try.pinned (OpenSpec.ofChange tallyOrderSpec)

/-- ITS FALSE NEIGHBOUR: 'it returns false'. Refute it at one input. -/
def tallyOrderWrong : ChangeSpec := { name := "tallyOrder", fn := fun _ => fun
  | [d1, d2, d3] => { results := [.lit (.bool false)], args := [d1, d2, d3] }
  | _ => none }
def TallyOrderWrongFalsely : Prop := tallyOrderRow.holds Try.pinned (OpenSpec.ofChange tallyOrderWrong)

/-- 'bellwetherlaw16.VecSteps': WHATEVER THE INPUT: true; the input reads as it did. -/
def vecStepsSpec : ChangeSpec := { name := "vecSteps", fn := fun _ => fun
  | [d1, d2, d3, d4] => { results := [.lit (.bool true)], args := [d1, d2, d3, d4] }
  | _ => none }
def vecStepsRow : OpenClaim := { program := "ytfannnojhkkaiaa", sum := "9e45495026b8bb7977cd10785c5ed5e4492fe11297d67d95ac233848f3e07a89", func := "bellwether/bellwetherlaw16.VecSteps", spec := "vecSteps", unfollowed := true, recurses := true, apart := false }
def VecStepsSaid : Prop := vecStepsRow.holds Try.pinned (OpenSpec.ofChange vecStepsSpec)

/-- ITS FALSE NEIGHBOUR: 'it returns false'. Refute it at one input. -/
def vecStepsWrong : ChangeSpec := { name := "vecSteps", fn := fun _ => fun
  | [d1, d2, d3, d4] => { results := [.lit (.bool false)], args := [d1, d2, d3, d4] }
  | _ => none }
def VecStepsWrongFalsely : Prop := vecStepsRow.holds Try.pinned (OpenSpec.ofChange vecStepsWrong)

/-- 'bellwetherlaw16.VecNumbers': WHATEVER THE INPUT: true; the input reads as it did. -/
def vecNumbersSpec : ChangeSpec := { name := "vecNumbers", fn := fun _ => fun
  | [d1, d2, d3] => { results := [.lit (.bool true)], args := [d1, d2, d3] }
  | _ => none }
def vecNumbersRow : OpenClaim := { program := "ytfannnojhkkaiaa", sum := "9e45495026b8bb7977cd10785c5ed5e4492fe11297d67d95ac233848f3e07a89", func := "bellwether/bellwetherlaw16.VecNumbers", spec := "vecNumbers", unfollowed := true, recurses := true, apart := false }
def VecNumbersSaid : Prop := vecNumbersRow.holds Try.pinned (OpenSpec.ofChange vecNumbersSpec)

/-- ITS FALSE NEIGHBOUR: 'it returns false'. Refute it at one input. -/
def vecNumbersWrong : ChangeSpec := { name := "vecNumbers", fn := fun _ => fun
  | [d1, d2, d3] => { results := [.lit (.bool false)], args := [d1, d2, d3] }
  | _ => none }
def VecNumbersWrongFalsely : Prop := vecNumbersRow.holds Try.pinned (OpenSpec.ofChange vecNumbersWrong)

/-- 'bellwetherlaw16.VecApart': WHATEVER THE INPUT: true; the input reads as it did. -/
def vecApartSpec : ChangeSpec := { name := "vecApart", fn := fun _ => fun
  | [d1, d2, d3, d4] => { results := [.lit (.bool true)], args := [d1, d2, d3, d4] }
  | _ => none }
def vecApartRow : OpenClaim := { program := "ytfannnojhkkaiaa", sum := "9e45495026b8bb7977cd10785c5ed5e4492fe11297d67d95ac233848f3e07a89", func := "bellwether/bellwetherlaw16.VecApart", spec := "vecApart", unfollowed := true, recurses := true, apart := false }
def VecApartSaid : Prop := vecApartRow.holds Try.pinned (OpenSpec.ofChange vecApartSpec)

/-- ITS FALSE NEIGHBOUR: 'it returns false'. Refute it at one input. -/
def vecApartWrong : ChangeSpec := { name := "vecApart", fn := fun _ => fun
  | [d1, d2, d3, d4] => { results := [.lit (.bool false)], args := [d1, d2, d3, d4] }
  | _ => none }
def VecApartWrongFalsely : Prop := vecApartRow.holds Try.pinned (OpenSpec.ofChange vecApartWrong)

/-- 'bellwetherlaw16.VecAgrees': WHATEVER THE INPUT: true; the input reads as it did. -/
def vecAgreesSpec : ChangeSpec := { name := "vecAgrees", fn := fun _ => fun
  | [d1, d2, d3, d4] => { results := [.lit (.bool true)], args := [d1, d2, d3, d4] }
  | _ => none }
def vecAgreesRow : OpenClaim := { program := "ytfannnojhkkaiaa", sum := "9e45495026b8bb7977cd10785c5ed5e4492fe11297d67d95ac233848f3e07a89", func := "bellwether/bellwetherlaw16.VecAgrees", spec := "vecAgrees", unfollowed := true, recurses := true, apart := false }
def VecAgreesSaid : Prop := vecAgreesRow.holds Try.pinned (OpenSpec.ofChange vecAgreesSpec)

/-- ITS FALSE NEIGHBOUR: 'it returns false'. Refute it at one input. -/
def vecAgreesWrong : ChangeSpec := { name := "vecAgrees", fn := fun _ => fun
  | [d1, d2, d3, d4] => { results := [.lit (.bool false)], args := [d1, d2, d3, d4] }
  | _ => none }
def VecAgreesWrongFalsely : Prop := vecAgreesRow.holds Try.pinned (OpenSpec.ofChange vecAgreesWrong)

/-- 'bellwetherlaw14.KingSteps': WHATEVER THE INPUT: true; the input reads as it did. -/
def kingStepsSpec : ChangeSpec := { name := "kingSteps", fn := fun _ => fun
  | [d1, d2, d3, d4] => { results := [.lit (.bool true)], args := [d1, d2, d3, d4] }
  | _ => none }
def kingStepsRow : OpenClaim := { program := "ytfannnojhkkaiaa", sum := "9e45495026b8bb7977cd10785c5ed5e4492fe11297d67d95ac233848f3e07a89", func := "bellwether/bellwetherlaw14.KingSteps", spec := "kingSteps", unfollowed := true, recurses := true, apart := false }
def KingStepsSaid : Prop := kingStepsRow.holds Try.pinned (OpenSpec.ofChange kingStepsSpec)

/-- ITS FALSE NEIGHBOUR: 'it returns false'. Refute it at one input. -/
def kingStepsWrong : ChangeSpec := { name := "kingSteps", fn := fun _ => fun
  | [d1, d2, d3, d4] => { results := [.lit (.bool false)], args := [d1, d2, d3, d4] }
  | _ => none }
def KingStepsWrongFalsely : Prop := kingStepsRow.holds Try.pinned (OpenSpec.ofChange kingStepsWrong)

/-- 'bellwetherlaw14.KingPlays': WHATEVER THE INPUT: true; the input reads as it did. -/
def kingPlaysSpec : ChangeSpec := { name := "kingPlays", fn := fun _ => fun
  | [d1, d2, d3, d4] => { results := [.lit (.bool true)], args := [d1, d2, d3, d4] }
  | _ => none }
def kingPlaysRow : OpenClaim := { program := "ytfannnojhkkaiaa", sum := "9e45495026b8bb7977cd10785c5ed5e4492fe11297d67d95ac233848f3e07a89", func := "bellwether/bellwetherlaw14.KingPlays", spec := "kingPlays", unfollowed := true, recurses := true, apart := false }
def KingPlaysSaid : Prop := kingPlaysRow.holds Try.pinned (OpenSpec.ofChange kingPlaysSpec)

/-- ITS FALSE NEIGHBOUR: 'it returns false'. Refute it at one input. -/
def kingPlaysWrong : ChangeSpec := { name := "kingPlays", fn := fun _ => fun
  | [d1, d2, d3, d4] => { results := [.lit (.bool false)], args := [d1, d2, d3, d4] }
  | _ => none }
def KingPlaysWrongFalsely : Prop := kingPlaysRow.holds Try.pinned (OpenSpec.ofChange kingPlaysWrong)

/-- 'bellwetherlaw14.KingAgrees': WHATEVER THE INPUT: true; the input reads as it did. -/
def kingAgreesSpec : ChangeSpec := { name := "kingAgrees", fn := fun _ => fun
  | [d1, d2, d3, d4] => { results := [.lit (.bool true)], args := [d1, d2, d3, d4] }
  | _ => none }
def kingAgreesRow : OpenClaim := { program := "ytfannnojhkkaiaa", sum := "9e45495026b8bb7977cd10785c5ed5e4492fe11297d67d95ac233848f3e07a89", func := "bellwether/bellwetherlaw14.KingAgrees", spec := "kingAgrees", unfollowed := true, recurses := true, apart := false }
def KingAgreesSaid : Prop := kingAgreesRow.holds Try.pinned (OpenSpec.ofChange kingAgreesSpec)

/-- ITS FALSE NEIGHBOUR: 'it returns false'. Refute it at one input. -/
def kingAgreesWrong : ChangeSpec := { name := "kingAgrees", fn := fun _ => fun
  | [d1, d2, d3, d4] => { results := [.lit (.bool false)], args := [d1, d2, d3, d4] }
  | _ => none }
def KingAgreesWrongFalsely : Prop := kingAgreesRow.holds Try.pinned (OpenSpec.ofChange kingAgreesWrong)

/-- 'bellwetherlaw14.KingKeeps': WHATEVER THE INPUT: true; the input reads as it did. -/
def kingKeepsSpec : ChangeSpec := { name := "kingKeeps", fn := fun _ => fun
  | [d1, d2, d3, d4] => { results := [.lit (.bool true)], args := [d1, d2, d3, d4] }
  | _ => none }
def kingKeepsRow : OpenClaim := { program := "ytfannnojhkkaiaa", sum := "9e45495026b8bb7977cd10785c5ed5e4492fe11297d67d95ac233848f3e07a89", func := "bellwether/bellwetherlaw14.KingKeeps", spec := "kingKeeps", unfollowed := true, recurses := true, apart := false }
def KingKeepsSaid : Prop := kingKeepsRow.holds Try.pinned (OpenSpec.ofChange kingKeepsSpec)

/-- ITS FALSE NEIGHBOUR: 'it returns false'. Refute it at one input. -/
def kingKeepsWrong : ChangeSpec := { name := "kingKeeps", fn := fun _ => fun
  | [d1, d2, d3, d4] => { results := [.lit (.bool false)], args := [d1, d2, d3, d4] }
  | _ => none }
def KingKeepsWrongFalsely : Prop := kingKeepsRow.holds Try.pinned (OpenSpec.ofChange kingKeepsWrong)

/- THE SECOND FORM. 'bulk': how many values and letters a reading holds, each counted each time it is reached (what is shared counts as often as it is met; a slice's spare places count too). A statement '..UptoSaid' is the law's where the arguments, and the package variables that the reading takes, are together of bulk at most 1048576: NARROWER than '..Said'. Prove '..Said' where nothing that the law and all that it calls make is longer than what came in: it says more and counts as full. Else prove '..UptoSaid'. A law counts once. -/
mutual
def uptoBulk {H : Type} : DataW H → Nat
  | .lit (.string bytes) => bytes.length + 1
  | .lit _ => 1
  | .nil => 1
  | .ptr d => uptoBulk d + 1
  | .slice elems spare => uptoBulkAll elems + uptoBulkAll spare + 1
  | .agg parts => uptoBulkAll parts + 1
  | .iface _ d => uptoBulk d + 1
  | .map entries => uptoBulkEntries entries + 1
  | .held _ => 1
def uptoBulkAll {H : Type} : List (DataW H) → Nat
  | [] => 0
  | d :: r => uptoBulk d + uptoBulkAll r
def uptoBulkEntries {H : Type} : List (Lit × DataW H) → Nat
  | [] => 0
  | x :: r => uptoBulkEntry x + uptoBulkEntries r
def uptoBulkEntry {H : Type} : Lit × DataW H → Nat
  | (.string bytes, d) => bytes.length + uptoBulk d + 1
  | (_, d) => uptoBulk d + 1
 end
def uptoSmall : (H : Type) → List (DataW H) → Bool := fun _ ds => decide (uptoBulkAll ds ≤ 1048576)
def OpenSpec.upto (s : _root_.Go.ChangeSpec) : _root_.Go.OpenSpec := { _root_.Go.OpenSpec.ofChange s with cond := some uptoSmall }

/-- 'bellwetherlaw13.TallyCounts', WHERE WHAT IT READS IS OF BULK AT MOST 1048576: true; the input reads as it did. -/
def tallyCountsUptoRow : OpenClaim := { program := "ytfannnojhkkaiaa", sum := "9e45495026b8bb7977cd10785c5ed5e4492fe11297d67d95ac233848f3e07a89", func := "bellwether/bellwetherlaw13.TallyCounts", spec := "tallyCounts", apart := false, narrowed := true }
def TallyCountsUptoSaid : Prop := tallyCountsUptoRow.holds Try.pinned (OpenSpec.upto tallyCountsSpec)

/-- 'bellwetherlaw13.TallyMeet', WHERE WHAT IT READS IS OF BULK AT MOST 1048576: true; the input reads as it did. -/
def tallyMeetUptoRow : OpenClaim := { program := "ytfannnojhkkaiaa", sum := "9e45495026b8bb7977cd10785c5ed5e4492fe11297d67d95ac233848f3e07a89", func := "bellwether/bellwetherlaw13.TallyMeet", spec := "tallyMeet", apart := false, narrowed := true }
def TallyMeetUptoSaid : Prop := tallyMeetUptoRow.holds Try.pinned (OpenSpec.upto tallyMeetSpec)

/-- 'bellwetherlaw13.TallyKeeps', WHERE WHAT IT READS IS OF BULK AT MOST 1048576: true; the input reads as it did. -/
def tallyKeepsUptoRow : OpenClaim := { program := "ytfannnojhkkaiaa", sum := "9e45495026b8bb7977cd10785c5ed5e4492fe11297d67d95ac233848f3e07a89", func := "bellwether/bellwetherlaw13.TallyKeeps", spec := "tallyKeeps", apart := false, narrowed := true }
def TallyKeepsUptoSaid : Prop := tallyKeepsUptoRow.holds Try.pinned (OpenSpec.upto tallyKeepsSpec)

/-- 'bellwetherlaw13.TallyOrder', WHERE WHAT IT READS IS OF BULK AT MOST 1048576: true; the input reads as it did. -/
def tallyOrderUptoRow : OpenClaim := { program := "ytfannnojhkkaiaa", sum := "9e45495026b8bb7977cd10785c5ed5e4492fe11297d67d95ac233848f3e07a89", func := "bellwether/bellwetherlaw13.TallyOrder", spec := "tallyOrder", apart := false, narrowed := true }
def TallyOrderUptoSaid : Prop := tallyOrderUptoRow.holds Try.pinned (OpenSpec.upto tallyOrderSpec)

/-- 'bellwetherlaw16.VecSteps', WHERE WHAT IT READS IS OF BULK AT MOST 1048576: true; the input reads as it did. -/
def vecStepsUptoRow : OpenClaim := { program := "ytfannnojhkkaiaa", sum := "9e45495026b8bb7977cd10785c5ed5e4492fe11297d67d95ac233848f3e07a89", func := "bellwether/bellwetherlaw16.VecSteps", spec := "vecSteps", unfollowed := true, recurses := true, apart := false, narrowed := true }
def VecStepsUptoSaid : Prop := vecStepsUptoRow.holds Try.pinned (OpenSpec.upto vecStepsSpec)

/-- 'bellwetherlaw16.VecNumbers', WHERE WHAT IT READS IS OF BULK AT MOST 1048576: true; the input reads as it did. -/
def vecNumbersUptoRow : OpenClaim := { program := "ytfannnojhkkaiaa", sum := "9e45495026b8bb7977cd10785c5ed5e4492fe11297d67d95ac233848f3e07a89", func := "bellwether/bellwetherlaw16.VecNumbers", spec := "vecNumbers", unfollowed := true, recurses := true, apart := false, narrowed := true }
def VecNumbersUptoSaid : Prop := vecNumbersUptoRow.holds Try.pinned (OpenSpec.upto vecNumbersSpec)

/-- 'bellwetherlaw16.VecApart', WHERE WHAT IT READS IS OF BULK AT MOST 1048576: true; the input reads as it did. -/
def vecApartUptoRow : OpenClaim := { program := "ytfannnojhkkaiaa", sum := "9e45495026b8bb7977cd10785c5ed5e4492fe11297d67d95ac233848f3e07a89", func := "bellwether/bellwetherlaw16.VecApart", spec := "vecApart", unfollowed := true, recurses := true, apart := false, narrowed := true }
def VecApartUptoSaid : Prop := vecApartUptoRow.holds Try.pinned (OpenSpec.upto vecApartSpec)

/-- 'bellwetherlaw16.VecAgrees', WHERE WHAT IT READS IS OF BULK AT MOST 1048576: true; the input reads as it did. -/
def vecAgreesUptoRow : OpenClaim := { program := "ytfannnojhkkaiaa", sum := "9e45495026b8bb7977cd10785c5ed5e4492fe11297d67d95ac233848f3e07a89", func := "bellwether/bellwetherlaw16.VecAgrees", spec := "vecAgrees", unfollowed := true, recurses := true, apart := false, narrowed := true }
def VecAgreesUptoSaid : Prop := vecAgreesUptoRow.holds Try.pinned (OpenSpec.upto vecAgreesSpec)

/-- 'bellwetherlaw14.KingSteps', WHERE WHAT IT READS IS OF BULK AT MOST 1048576: true; the input reads as it did. -/
def kingStepsUptoRow : OpenClaim := { program := "ytfannnojhkkaiaa", sum := "9e45495026b8bb7977cd10785c5ed5e4492fe11297d67d95ac233848f3e07a89", func := "bellwether/bellwetherlaw14.KingSteps", spec := "kingSteps", unfollowed := true, recurses := true, apart := false, narrowed := true }
def KingStepsUptoSaid : Prop := kingStepsUptoRow.holds Try.pinned (OpenSpec.upto kingStepsSpec)

/-- 'bellwetherlaw14.KingPlays', WHERE WHAT IT READS IS OF BULK AT MOST 1048576: true; the input reads as it did. -/
def kingPlaysUptoRow : OpenClaim := { program := "ytfannnojhkkaiaa", sum := "9e45495026b8bb7977cd10785c5ed5e4492fe11297d67d95ac233848f3e07a89", func := "bellwether/bellwetherlaw14.KingPlays", spec := "kingPlays", unfollowed := true, recurses := true, apart := false, narrowed := true }
def KingPlaysUptoSaid : Prop := kingPlaysUptoRow.holds Try.pinned (OpenSpec.upto kingPlaysSpec)

/-- 'bellwetherlaw14.KingAgrees', WHERE WHAT IT READS IS OF BULK AT MOST 1048576: true; the input reads as it did. -/
def kingAgreesUptoRow : OpenClaim := { program := "ytfannnojhkkaiaa", sum := "9e45495026b8bb7977cd10785c5ed5e4492fe11297d67d95ac233848f3e07a89", func := "bellwether/bellwetherlaw14.KingAgrees", spec := "kingAgrees", unfollowed := true, recurses := true, apart := false, narrowed := true }
def KingAgreesUptoSaid : Prop := kingAgreesUptoRow.holds Try.pinned (OpenSpec.upto kingAgreesSpec)

/-- 'bellwetherlaw14.KingKeeps', WHERE WHAT IT READS IS OF BULK AT MOST 1048576: true; the input reads as it did. -/
def kingKeepsUptoRow : OpenClaim := { program := "ytfannnojhkkaiaa", sum := "9e45495026b8bb7977cd10785c5ed5e4492fe11297d67d95ac233848f3e07a89", func := "bellwether/bellwetherlaw14.KingKeeps", spec := "kingKeeps", unfollowed := true, recurses := true, apart := false, narrowed := true }
def KingKeepsUptoSaid : Prop := kingKeepsUptoRow.holds Try.pinned (OpenSpec.upto kingKeepsSpec)

end Rows
end Go.Proofs.Ytfannnojhkkaiaa
