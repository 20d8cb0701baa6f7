/-
  No cell of these rows narrows 'for every input' (looked for: loops, veiled, ifaces, maps, wideKeys, modest, calm, conditions, laid).
  DERIVED. THE GIVEN ROWS OF THIS SEAT. 12 by the template 'for every input the law returns true; each argument reads behind the call as it read before'; 0 by the template 'total and deterministic' (their statements: YthblnnboeikgcaaTotals.lean).
  GIVEN WITH THE SEED: the statements are not yours to turn. If you find one false, say at which input.
  Laid BY PROGRAM, IN A SANDBOX (cutbox-rows.mjs): the forced cells as the released guide's own fill.sh prints them over the translation ad8c219f729646e4… (all of the seat's roots in one cut). By AI agents, Wed Nov 11 2026. No macro, syntax, notation, axiom, sorry.
-/
import Derived.Test.YthblnnboeikgcaaChecked
import GoSem.Claim
import GoSem.ClaimJoined
import GoSem.ClaimMapViews
import Derived.JoinedTies
import Derived.KernelRfl
namespace Go.Proofs.Ythblnnboeikgcaa
/- THE CELL 'sum', in the pinned program and in every row, IS THE sha256 OF THE DUMP (.gsa) THAT YthblnnboeikgcaaProg.lean LOADS. Nothing in Lean hashes anything: it is a label: what it is worth is what the hold of that sum in a sandbox is worth. -/
noncomputable def Try.pinned : Pinned := { name := "ythblnnboeikgcaa", sum := "ad8c219f729646e48f26ac387e1a6d8319f8f5a57a57372394a9793d9d82aebf", checked := Try.checked }
namespace Rows
def none {H : Type} : Left H := { results := [], args := [] }

/-- 'bellwetherlaw19.AgreeTells': WHATEVER THE INPUT: true; the input reads as it did. -/
def agreeTellsSpec : ChangeSpec := { name := "agreeTells", fn := fun _ => fun
  | [d1, d2, d3, d4] => { results := [.lit (.bool true)], args := [d1, d2, d3, d4] }
  | _ => none }
def agreeTellsRow : OpenClaim := { program := "ythblnnboeikgcaa", sum := "ad8c219f729646e48f26ac387e1a6d8319f8f5a57a57372394a9793d9d82aebf", func := "bellwether/bellwetherlaw19.AgreeTells", spec := "agreeTells", unfollowed := true, recurses := true, apart := false }
def AgreeTellsSaid : Prop := agreeTellsRow.holds Try.pinned (OpenSpec.ofChange agreeTellsSpec)

/-- ITS FALSE NEIGHBOUR: 'it returns false'. Refute it at one input. -/
def agreeTellsWrong : ChangeSpec := { name := "agreeTells", fn := fun _ => fun
  | [d1, d2, d3, d4] => { results := [.lit (.bool false)], args := [d1, d2, d3, d4] }
  | _ => none }
def AgreeTellsWrongFalsely : Prop := agreeTellsRow.holds Try.pinned (OpenSpec.ofChange agreeTellsWrong)

/-- 'bellwetherlaw19.AgreeSteps': WHATEVER THE INPUT: true; the input reads as it did. -/
def agreeStepsSpec : ChangeSpec := { name := "agreeSteps", fn := fun _ => fun
  | [d1, d2, d3] => { results := [.lit (.bool true)], args := [d1, d2, d3] }
  | _ => none }
def agreeStepsRow : OpenClaim := { program := "ythblnnboeikgcaa", sum := "ad8c219f729646e48f26ac387e1a6d8319f8f5a57a57372394a9793d9d82aebf", func := "bellwether/bellwetherlaw19.AgreeSteps", spec := "agreeSteps", unfollowed := true, recurses := true, apart := false }
def AgreeStepsSaid : Prop := agreeStepsRow.holds Try.pinned (OpenSpec.ofChange agreeStepsSpec)

/-- ITS FALSE NEIGHBOUR: 'it returns false'. Refute it at one input. -/
def agreeStepsWrong : ChangeSpec := { name := "agreeSteps", fn := fun _ => fun
  | [d1, d2, d3] => { results := [.lit (.bool false)], args := [d1, d2, d3] }
  | _ => none }
def AgreeStepsWrongFalsely : Prop := agreeStepsRow.holds Try.pinned (OpenSpec.ofChange agreeStepsWrong)

/-- 'bellwetherlaw19.AgreeTogether': WHATEVER THE INPUT: true; the input reads as it did. -/
def agreeTogetherSpec : ChangeSpec := { name := "agreeTogether", fn := fun _ => fun
  | [d] => { results := [.lit (.bool true)], args := [d] }
  | _ => none }
def agreeTogetherRow : OpenClaim := { program := "ythblnnboeikgcaa", sum := "ad8c219f729646e48f26ac387e1a6d8319f8f5a57a57372394a9793d9d82aebf", func := "bellwether/bellwetherlaw19.AgreeTogether", spec := "agreeTogether", unfollowed := true, recurses := true, apart := false }
def AgreeTogetherSaid : Prop := agreeTogetherRow.holds Try.pinned (OpenSpec.ofChange agreeTogetherSpec)

/-- ITS FALSE NEIGHBOUR: 'it returns false'. Refute it at one input. -/
def agreeTogetherWrong : ChangeSpec := { name := "agreeTogether", fn := fun _ => fun
  | [d] => { results := [.lit (.bool false)], args := [d] }
  | _ => none }
def AgreeTogetherWrongFalsely : Prop := agreeTogetherRow.holds Try.pinned (OpenSpec.ofChange agreeTogetherWrong)

/-- 'bellwetherlaw17.PipeTells': WHATEVER THE INPUT: true; the input reads as it did. -/
def pipeTellsSpec : ChangeSpec := { name := "pipeTells", fn := fun _ => fun
  | [d1, d2, d3] => { results := [.lit (.bool true)], args := [d1, d2, d3] }
  | _ => none }
def pipeTellsRow : OpenClaim := { program := "ythblnnboeikgcaa", sum := "ad8c219f729646e48f26ac387e1a6d8319f8f5a57a57372394a9793d9d82aebf", func := "bellwether/bellwetherlaw17.PipeTells", spec := "pipeTells", inPlace := ["internal/abi.NoEscape", "internal/bytealg.MakeNoZero"], unfollowed := true, recurses := true, apart := false }
def PipeTellsSaid : Prop := pipeTellsRow.holds Try.pinned (OpenSpec.ofChange pipeTellsSpec)

/-- ITS FALSE NEIGHBOUR: 'it returns false'. Refute it at one input. -/
def pipeTellsWrong : ChangeSpec := { name := "pipeTells", fn := fun _ => fun
  | [d1, d2, d3] => { results := [.lit (.bool false)], args := [d1, d2, d3] }
  | _ => none }
def PipeTellsWrongFalsely : Prop := pipeTellsRow.holds Try.pinned (OpenSpec.ofChange pipeTellsWrong)

/-- 'bellwetherlaw17.PipeMoves': WHATEVER THE INPUT: true; the input reads as it did. -/
def pipeMovesSpec : ChangeSpec := { name := "pipeMoves", fn := fun _ => fun
  | [d1, d2, d3] => { results := [.lit (.bool true)], args := [d1, d2, d3] }
  | _ => none }
def pipeMovesRow : OpenClaim := { program := "ythblnnboeikgcaa", sum := "ad8c219f729646e48f26ac387e1a6d8319f8f5a57a57372394a9793d9d82aebf", func := "bellwether/bellwetherlaw17.PipeMoves", spec := "pipeMoves", inPlace := ["internal/abi.NoEscape", "internal/bytealg.MakeNoZero"], unfollowed := true, recurses := true, apart := false }
def PipeMovesSaid : Prop := pipeMovesRow.holds Try.pinned (OpenSpec.ofChange pipeMovesSpec)

/-- ITS FALSE NEIGHBOUR: 'it returns false'. Refute it at one input. -/
def pipeMovesWrong : ChangeSpec := { name := "pipeMoves", fn := fun _ => fun
  | [d1, d2, d3] => { results := [.lit (.bool false)], args := [d1, d2, d3] }
  | _ => none }
def PipeMovesWrongFalsely : Prop := pipeMovesRow.holds Try.pinned (OpenSpec.ofChange pipeMovesWrong)

/-- 'bellwetherlaw17.PipeAlone': WHATEVER THE INPUT: true; the input reads as it did. -/
def pipeAloneSpec : ChangeSpec := { name := "pipeAlone", fn := fun _ => fun
  | [d1, d2, d3, d4] => { results := [.lit (.bool true)], args := [d1, d2, d3, d4] }
  | _ => none }
def pipeAloneRow : OpenClaim := { program := "ythblnnboeikgcaa", sum := "ad8c219f729646e48f26ac387e1a6d8319f8f5a57a57372394a9793d9d82aebf", func := "bellwether/bellwetherlaw17.PipeAlone", spec := "pipeAlone", inPlace := ["internal/abi.NoEscape", "internal/bytealg.MakeNoZero"], unfollowed := true, recurses := true, apart := false }
def PipeAloneSaid : Prop := pipeAloneRow.holds Try.pinned (OpenSpec.ofChange pipeAloneSpec)

/-- ITS FALSE NEIGHBOUR: 'it returns false'. Refute it at one input. -/
def pipeAloneWrong : ChangeSpec := { name := "pipeAlone", fn := fun _ => fun
  | [d1, d2, d3, d4] => { results := [.lit (.bool false)], args := [d1, d2, d3, d4] }
  | _ => none }
def PipeAloneWrongFalsely : Prop := pipeAloneRow.holds Try.pinned (OpenSpec.ofChange pipeAloneWrong)

/-- 'bellwetherlaw17.PipeApart': WHATEVER THE INPUT: true; the input reads as it did. -/
def pipeApartSpec : ChangeSpec := { name := "pipeApart", fn := fun _ => fun
  | [d1, d2, d3, d4] => { results := [.lit (.bool true)], args := [d1, d2, d3, d4] }
  | _ => none }
def pipeApartRow : OpenClaim := { program := "ythblnnboeikgcaa", sum := "ad8c219f729646e48f26ac387e1a6d8319f8f5a57a57372394a9793d9d82aebf", func := "bellwether/bellwetherlaw17.PipeApart", spec := "pipeApart", inPlace := ["internal/abi.NoEscape", "internal/bytealg.MakeNoZero"], unfollowed := true, recurses := true, apart := false }
def PipeApartSaid : Prop := pipeApartRow.holds Try.pinned (OpenSpec.ofChange pipeApartSpec)

/-- ITS FALSE NEIGHBOUR: 'it returns false'. Refute it at one input. -/
def pipeApartWrong : ChangeSpec := { name := "pipeApart", fn := fun _ => fun
  | [d1, d2, d3, d4] => { results := [.lit (.bool false)], args := [d1, d2, d3, d4] }
  | _ => none }
def PipeApartWrongFalsely : Prop := pipeApartRow.holds Try.pinned (OpenSpec.ofChange pipeApartWrong)

/-- 'bellwetherlaw18.BeatNext': WHATEVER THE INPUT: true; the input reads as it did. -/
def beatNextSpec : ChangeSpec := { name := "beatNext", fn := fun _ => fun
  | [d1, d2, d3, d4] => { results := [.lit (.bool true)], args := [d1, d2, d3, d4] }
  | _ => none }
def beatNextRow : OpenClaim := { program := "ythblnnboeikgcaa", sum := "ad8c219f729646e48f26ac387e1a6d8319f8f5a57a57372394a9793d9d82aebf", func := "bellwether/bellwetherlaw18.BeatNext", spec := "beatNext", inPlace := ["internal/abi.NoEscape", "internal/bytealg.MakeNoZero"], unfollowed := true, recurses := true, apart := false }
def BeatNextSaid : Prop := beatNextRow.holds Try.pinned (OpenSpec.ofChange beatNextSpec)

/-- ITS FALSE NEIGHBOUR: 'it returns false'. Refute it at one input. -/
def beatNextWrong : ChangeSpec := { name := "beatNext", fn := fun _ => fun
  | [d1, d2, d3, d4] => { results := [.lit (.bool false)], args := [d1, d2, d3, d4] }
  | _ => none }
def BeatNextWrongFalsely : Prop := beatNextRow.holds Try.pinned (OpenSpec.ofChange beatNextWrong)

/-- 'bellwetherlaw18.BeatSteps': WHATEVER THE INPUT: true; the input reads as it did. -/
def beatStepsSpec : ChangeSpec := { name := "beatSteps", fn := fun _ => fun
  | [d1, d2, d3, d4] => { results := [.lit (.bool true)], args := [d1, d2, d3, d4] }
  | _ => none }
def beatStepsRow : OpenClaim := { program := "ythblnnboeikgcaa", sum := "ad8c219f729646e48f26ac387e1a6d8319f8f5a57a57372394a9793d9d82aebf", func := "bellwether/bellwetherlaw18.BeatSteps", spec := "beatSteps", inPlace := ["internal/abi.NoEscape", "internal/bytealg.MakeNoZero"], unfollowed := true, recurses := true, apart := false }
def BeatStepsSaid : Prop := beatStepsRow.holds Try.pinned (OpenSpec.ofChange beatStepsSpec)

/-- ITS FALSE NEIGHBOUR: 'it returns false'. Refute it at one input. -/
def beatStepsWrong : ChangeSpec := { name := "beatSteps", fn := fun _ => fun
  | [d1, d2, d3, d4] => { results := [.lit (.bool false)], args := [d1, d2, d3, d4] }
  | _ => none }
def BeatStepsWrongFalsely : Prop := beatStepsRow.holds Try.pinned (OpenSpec.ofChange beatStepsWrong)

/-- 'bellwetherlaw18.BeatAlone': WHATEVER THE INPUT: true; the input reads as it did. -/
def beatAloneSpec : ChangeSpec := { name := "beatAlone", fn := fun _ => fun
  | [d1, d2, d3, d4] => { results := [.lit (.bool true)], args := [d1, d2, d3, d4] }
  | _ => none }
def beatAloneRow : OpenClaim := { program := "ythblnnboeikgcaa", sum := "ad8c219f729646e48f26ac387e1a6d8319f8f5a57a57372394a9793d9d82aebf", func := "bellwether/bellwetherlaw18.BeatAlone", spec := "beatAlone", inPlace := ["internal/abi.NoEscape", "internal/bytealg.MakeNoZero"], unfollowed := true, recurses := true, apart := false }
def BeatAloneSaid : Prop := beatAloneRow.holds Try.pinned (OpenSpec.ofChange beatAloneSpec)

/-- ITS FALSE NEIGHBOUR: 'it returns false'. Refute it at one input. -/
def beatAloneWrong : ChangeSpec := { name := "beatAlone", fn := fun _ => fun
  | [d1, d2, d3, d4] => { results := [.lit (.bool false)], args := [d1, d2, d3, d4] }
  | _ => none }
def BeatAloneWrongFalsely : Prop := beatAloneRow.holds Try.pinned (OpenSpec.ofChange beatAloneWrong)

/-- 'bellwetherlaw18.BeatRegular': WHATEVER THE INPUT: true; the input reads as it did. -/
def beatRegularSpec : ChangeSpec := { name := "beatRegular", fn := fun _ => fun
  | [d1, d2, d3, d4] => { results := [.lit (.bool true)], args := [d1, d2, d3, d4] }
  | _ => none }
def beatRegularRow : OpenClaim := { program := "ythblnnboeikgcaa", sum := "ad8c219f729646e48f26ac387e1a6d8319f8f5a57a57372394a9793d9d82aebf", func := "bellwether/bellwetherlaw18.BeatRegular", spec := "beatRegular", inPlace := ["internal/abi.NoEscape", "internal/bytealg.MakeNoZero"], unfollowed := true, recurses := true, apart := false }
def BeatRegularSaid : Prop := beatRegularRow.holds Try.pinned (OpenSpec.ofChange beatRegularSpec)

/-- ITS FALSE NEIGHBOUR: 'it returns false'. Refute it at one input. -/
def beatRegularWrong : ChangeSpec := { name := "beatRegular", fn := fun _ => fun
  | [d1, d2, d3, d4] => { results := [.lit (.bool false)], args := [d1, d2, d3, d4] }
  | _ => none }
def BeatRegularWrongFalsely : Prop := beatRegularRow.holds Try.pinned (OpenSpec.ofChange beatRegularWrong)

/-- 'bellwetherlaw18.BeatSettles': WHATEVER THE INPUT: true; the input reads as it did. -/
def beatSettlesSpec : ChangeSpec := { name := "beatSettles", fn := fun _ => fun
  | [d1, d2] => { results := [.lit (.bool true)], args := [d1, d2] }
  | _ => none }
def beatSettlesRow : OpenClaim := { program := "ythblnnboeikgcaa", sum := "ad8c219f729646e48f26ac387e1a6d8319f8f5a57a57372394a9793d9d82aebf", func := "bellwether/bellwetherlaw18.BeatSettles", spec := "beatSettles", inPlace := ["internal/abi.NoEscape", "internal/bytealg.MakeNoZero"], unfollowed := true, recurses := true, apart := false }
def BeatSettlesSaid : Prop := beatSettlesRow.holds Try.pinned (OpenSpec.ofChange beatSettlesSpec)

/-- ITS FALSE NEIGHBOUR: 'it returns false'. Refute it at one input. -/
def beatSettlesWrong : ChangeSpec := { name := "beatSettles", fn := fun _ => fun
  | [d1, d2] => { results := [.lit (.bool false)], args := [d1, d2] }
  | _ => none }
def BeatSettlesWrongFalsely : Prop := beatSettlesRow.holds Try.pinned (OpenSpec.ofChange beatSettlesWrong)

/- THE SECOND FORM. 'bulk': how many values and letters a reading holds, each counted each time it is reached (what is shared counts as often as it is met; a slice's spare places count too). A statement '..UptoSaid' is the law's where the arguments, and the package variables that the reading takes, are together of bulk at most 1048576: NARROWER than '..Said'. Prove '..Said' where nothing that the law and all that it calls make is longer than what came in: it says more and counts as full. Else prove '..UptoSaid'. A law counts once. -/
mutual
def uptoBulk {H : Type} : DataW H → Nat
  | .lit (.string bytes) => bytes.length + 1
  | .lit _ => 1
  | .nil => 1
  | .ptr d => uptoBulk d + 1
  | .slice elems spare => uptoBulkAll elems + uptoBulkAll spare + 1
  | .agg parts => uptoBulkAll parts + 1
  | .iface _ d => uptoBulk d + 1
  | .map entries => uptoBulkEntries entries + 1
  | .held _ => 1
def uptoBulkAll {H : Type} : List (DataW H) → Nat
  | [] => 0
  | d :: r => uptoBulk d + uptoBulkAll r
def uptoBulkEntries {H : Type} : List (Lit × DataW H) → Nat
  | [] => 0
  | x :: r => uptoBulkEntry x + uptoBulkEntries r
def uptoBulkEntry {H : Type} : Lit × DataW H → Nat
  | (.string bytes, d) => bytes.length + uptoBulk d + 1
  | (_, d) => uptoBulk d + 1
 end
def uptoSmall : (H : Type) → List (DataW H) → Bool := fun _ ds => decide (uptoBulkAll ds ≤ 1048576)
def OpenSpec.upto (s : _root_.Go.ChangeSpec) : _root_.Go.OpenSpec := { _root_.Go.OpenSpec.ofChange s with cond := some uptoSmall }

/-- 'bellwetherlaw19.AgreeTells', WHERE WHAT IT READS IS OF BULK AT MOST 1048576: true; the input reads as it did. -/
def agreeTellsUptoRow : OpenClaim := { program := "ythblnnboeikgcaa", sum := "ad8c219f729646e48f26ac387e1a6d8319f8f5a57a57372394a9793d9d82aebf", func := "bellwether/bellwetherlaw19.AgreeTells", spec := "agreeTells", unfollowed := true, recurses := true, apart := false, narrowed := true }
def AgreeTellsUptoSaid : Prop := agreeTellsUptoRow.holds Try.pinned (OpenSpec.upto agreeTellsSpec)

/-- 'bellwetherlaw19.AgreeSteps', WHERE WHAT IT READS IS OF BULK AT MOST 1048576: true; the input reads as it did. -/
def agreeStepsUptoRow : OpenClaim := { program := "ythblnnboeikgcaa", sum := "ad8c219f729646e48f26ac387e1a6d8319f8f5a57a57372394a9793d9d82aebf", func := "bellwether/bellwetherlaw19.AgreeSteps", spec := "agreeSteps", unfollowed := true, recurses := true, apart := false, narrowed := true }
def AgreeStepsUptoSaid : Prop := agreeStepsUptoRow.holds Try.pinned (OpenSpec.upto agreeStepsSpec)

/-- 'bellwetherlaw19.AgreeTogether', WHERE WHAT IT READS IS OF BULK AT MOST 1048576: true; the input reads as it did. -/
def agreeTogetherUptoRow : OpenClaim := { program := "ythblnnboeikgcaa", sum := "ad8c219f729646e48f26ac387e1a6d8319f8f5a57a57372394a9793d9d82aebf", func := "bellwether/bellwetherlaw19.AgreeTogether", spec := "agreeTogether", unfollowed := true, recurses := true, apart := false, narrowed := true }
def AgreeTogetherUptoSaid : Prop := agreeTogetherUptoRow.holds Try.pinned (OpenSpec.upto agreeTogetherSpec)

/-- 'bellwetherlaw17.PipeTells', WHERE WHAT IT READS IS OF BULK AT MOST 1048576: true; the input reads as it did. -/
def pipeTellsUptoRow : OpenClaim := { program := "ythblnnboeikgcaa", sum := "ad8c219f729646e48f26ac387e1a6d8319f8f5a57a57372394a9793d9d82aebf", func := "bellwether/bellwetherlaw17.PipeTells", spec := "pipeTells", inPlace := ["internal/abi.NoEscape", "internal/bytealg.MakeNoZero"], unfollowed := true, recurses := true, apart := false, narrowed := true }
def PipeTellsUptoSaid : Prop := pipeTellsUptoRow.holds Try.pinned (OpenSpec.upto pipeTellsSpec)

/-- 'bellwetherlaw17.PipeMoves', WHERE WHAT IT READS IS OF BULK AT MOST 1048576: true; the input reads as it did. -/
def pipeMovesUptoRow : OpenClaim := { program := "ythblnnboeikgcaa", sum := "ad8c219f729646e48f26ac387e1a6d8319f8f5a57a57372394a9793d9d82aebf", func := "bellwether/bellwetherlaw17.PipeMoves", spec := "pipeMoves", inPlace := ["internal/abi.NoEscape", "internal/bytealg.MakeNoZero"], unfollowed := true, recurses := true, apart := false, narrowed := true }
def PipeMovesUptoSaid : Prop := pipeMovesUptoRow.holds Try.pinned (OpenSpec.upto pipeMovesSpec)

/-- 'bellwetherlaw17.PipeAlone', WHERE WHAT IT READS IS OF BULK AT MOST 1048576: true; the input reads as it did. -/
def pipeAloneUptoRow : OpenClaim := { program := "ythblnnboeikgcaa", sum := "ad8c219f729646e48f26ac387e1a6d8319f8f5a57a57372394a9793d9d82aebf", func := "bellwether/bellwetherlaw17.PipeAlone", spec := "pipeAlone", inPlace := ["internal/abi.NoEscape", "internal/bytealg.MakeNoZero"], unfollowed := true, recurses := true, apart := false, narrowed := true }
def PipeAloneUptoSaid : Prop := pipeAloneUptoRow.holds Try.pinned (OpenSpec.upto pipeAloneSpec)

/-- 'bellwetherlaw17.PipeApart', WHERE WHAT IT READS IS OF BULK AT MOST 1048576: true; the input reads as it did. -/
def pipeApartUptoRow : OpenClaim := { program := "ythblnnboeikgcaa", sum := "ad8c219f729646e48f26ac387e1a6d8319f8f5a57a57372394a9793d9d82aebf", func := "bellwether/bellwetherlaw17.PipeApart", spec := "pipeApart", inPlace := ["internal/abi.NoEscape", "internal/bytealg.MakeNoZero"], unfollowed := true, recurses := true, apart := false, narrowed := true }
def PipeApartUptoSaid : Prop := pipeApartUptoRow.holds Try.pinned (OpenSpec.upto pipeApartSpec)

/-- 'bellwetherlaw18.BeatNext', WHERE WHAT IT READS IS OF BULK AT MOST 1048576: true; the input reads as it did. -/
def beatNextUptoRow : OpenClaim := { program := "ythblnnboeikgcaa", sum := "ad8c219f729646e48f26ac387e1a6d8319f8f5a57a57372394a9793d9d82aebf", func := "bellwether/bellwetherlaw18.BeatNext", spec := "beatNext", inPlace := ["internal/abi.NoEscape", "internal/bytealg.MakeNoZero"], unfollowed := true, recurses := true, apart := false, narrowed := true }
def BeatNextUptoSaid : Prop := beatNextUptoRow.holds Try.pinned (OpenSpec.upto beatNextSpec)

/-- 'bellwetherlaw18.BeatSteps', WHERE WHAT IT READS IS OF BULK AT MOST 1048576: true; the input reads as it did. -/
def beatStepsUptoRow : OpenClaim := { program := "ythblnnboeikgcaa", sum := "ad8c219f729646e48f26ac387e1a6d8319f8f5a57a57372394a9793d9d82aebf", func := "bellwether/bellwetherlaw18.BeatSteps", spec := "beatSteps", inPlace := ["internal/abi.NoEscape", "internal/bytealg.MakeNoZero"], unfollowed := true, recurses := true, apart := false, narrowed := true }
def BeatStepsUptoSaid : Prop := beatStepsUptoRow.holds Try.pinned (OpenSpec.upto beatStepsSpec)

/-- 'bellwetherlaw18.BeatAlone', WHERE WHAT IT READS IS OF BULK AT MOST 1048576: true; the input reads as it did. -/
def beatAloneUptoRow : OpenClaim := { program := "ythblnnboeikgcaa", sum := "ad8c219f729646e48f26ac387e1a6d8319f8f5a57a57372394a9793d9d82aebf", func := "bellwether/bellwetherlaw18.BeatAlone", spec := "beatAlone", inPlace := ["internal/abi.NoEscape", "internal/bytealg.MakeNoZero"], unfollowed := true, recurses := true, apart := false, narrowed := true }
def BeatAloneUptoSaid : Prop := beatAloneUptoRow.holds Try.pinned (OpenSpec.upto beatAloneSpec)

/-- 'bellwetherlaw18.BeatRegular', WHERE WHAT IT READS IS OF BULK AT MOST 1048576: true; the input reads as it did. -/
def beatRegularUptoRow : OpenClaim := { program := "ythblnnboeikgcaa", sum := "ad8c219f729646e48f26ac387e1a6d8319f8f5a57a57372394a9793d9d82aebf", func := "bellwether/bellwetherlaw18.BeatRegular", spec := "beatRegular", inPlace := ["internal/abi.NoEscape", "internal/bytealg.MakeNoZero"], unfollowed := true, recurses := true, apart := false, narrowed := true }
def BeatRegularUptoSaid : Prop := beatRegularUptoRow.holds Try.pinned (OpenSpec.upto beatRegularSpec)

/-- 'bellwetherlaw18.BeatSettles', WHERE WHAT IT READS IS OF BULK AT MOST 1048576: true; the input reads as it did. -/
def beatSettlesUptoRow : OpenClaim := { program := "ythblnnboeikgcaa", sum := "ad8c219f729646e48f26ac387e1a6d8319f8f5a57a57372394a9793d9d82aebf", func := "bellwether/bellwetherlaw18.BeatSettles", spec := "beatSettles", inPlace := ["internal/abi.NoEscape", "internal/bytealg.MakeNoZero"], unfollowed := true, recurses := true, apart := false, narrowed := true }
def BeatSettlesUptoSaid : Prop := beatSettlesUptoRow.holds Try.pinned (OpenSpec.upto beatSettlesSpec)

end Rows
end Go.Proofs.Ythblnnboeikgcaa
