import Derived.RangeFuncNested
import Derived.RangeFuncBound
import Derived.RangeFuncCalls
import Derived.RangeFuncLeaves
import Derived.Shelf.Abstract
import Derived.Shelf.RegionOpen
import Derived.WalkKit
import Derived.OwnWalkIn
import Derived.TacticsInMore
import Derived.LoopNIn
import Derived.LoopIn
import Derived.Maps.AppendAt
import Derived.Test.YthblnnboeikgcaaYBeatRegular49
section
set_option linter.unusedVariables false
set_option linter.unusedSimpArgs false
namespace Go.Proofs.Ythblnnboeikgcaa.PlanLib
open Go.RowKit Go.Proofs.Ythblnnboeikgcaa.B Go.Proofs.YthblnnboeikgcaaW.PrintWords Go.Proofs.Ythblnnboeikgcaa.ConfLib
def sat (a m : Int) : Int := if a < 0 ∨ m < 0 then 0 else if a ≥ m then m else a + 1
theorem sat_at (a m : Int) (hm : m ≤ 1000000) {k : Nat} (hk : 0 < k) : num_Sat.f k a m = some (sat a m) := by
  obtain ⟨k, rfl⟩ : ∃ j, k = j + 1 := ⟨k - 1, by omega⟩
  unfold num_Sat.f sat
  by_cases h1 : a < 0
  · rw [if_pos h1, if_pos (.inl h1)]
    simp only [num_Sat.j0]
    rw [if_pos (decide_eq_true h1)]
  · rw [if_neg h1]
    simp only [num_Sat.j0]
    by_cases h2 : m < 0
    · rw [if_pos (decide_eq_true h2), if_pos (.inr h2)]
    · rw [if_neg (by simpa using h2), if_neg (show ¬ (a < 0 ∨ m < 0) by omega)]
      by_cases h3 : a ≥ m
      · rw [if_pos h3, if_pos h3]
      · rw [if_neg h3, if_neg h3, ConfLib.wrap_small (by omega) (by omega)]
end Go.Proofs.Ythblnnboeikgcaa.PlanLib
end
section
namespace Go.Proofs.Ythblnnboeikgcaa.B
open Go.RowKit Go.Proofs.YthblnnboeikgcaaW.PrintWords Go.Proofs.YthblnnboeikgcaaW.PrintLast Go.Proofs.YthblnnboeikgcaaW.PrintMore
attribute [local go_sem] max2_int min2_int max_two min_two max_three min_three max_four min_four   -- for this text's walks alone
set_option linter.unusedVariables false
set_option linter.unusedSimpArgs false
attribute [local go_sem] Oper.semAt_some
def pipe_Tell.ok (d R : Int) (v r : ByteArray) : Prop := 0 ≤ R ∧ R ≤ 15 ∧ (R = 0 ∨ (0 ≤ d ∧ d ≤ 4)) ∧ r.size ≤ 1000000 ∧ ∀ j, j < R.toNat → (j : Int) * d < (v.size : Int)
instance (d R : Int) (v r : ByteArray) : Decidable (pipe_Tell.ok d R v r) := by unfold pipe_Tell.ok; infer_instance
def pipe_Tell.told (d : Int) (v : ByteArray) (m : Nat) : List Int := (List.range m).map (fun (j : Nat) => bt v ((j : Int) * d))
end Go.Proofs.Ythblnnboeikgcaa.B
end
section
set_option linter.unusedVariables false
set_option linter.unusedSimpArgs false
set_option linter.unusedSectionVars false
namespace Go.Proofs.Ythblnnboeikgcaa.PipeLib
open Go.RowKit Go.Proofs.Ythblnnboeikgcaa.B Go.Proofs.YthblnnboeikgcaaW.PrintWords Go.Proofs.YthblnnboeikgcaaW.PrintMore Go.Proofs.Ythblnnboeikgcaa.ConfLib Go.Proofs.Ythblnnboeikgcaa.TallyLib Go.Proofs.Ythblnnboeikgcaa.KingLib Go.Proofs.Ythblnnboeikgcaa.VecLib
section
variable (n f d p r dr o s m fr : Int) (t : List Int)
theorem len_pos (hp : plain n f d p r dr o s m fr t = 0) : 3 ≤ ConfLib.length n f d p r dr o s m fr t := by
  have hf := plain_facts hp
  have := mul_d (f := f) (d := d) (by omega) (by omega)
  unfold ConfLib.length
  rw [if_pos hp]
  omega
end
end Go.Proofs.Ythblnnboeikgcaa.PipeLib
end
section
namespace Go.Proofs.Ythblnnboeikgcaa.B
open Go.RowKit Go.Proofs.YthblnnboeikgcaaW.PrintWords Go.Proofs.YthblnnboeikgcaaW.PrintLast Go.Proofs.YthblnnboeikgcaaW.PrintMore
attribute [local go_sem] max2_int min2_int max_two min_two max_three min_three max_four min_four   -- for this text's walks alone
set_option linter.unusedVariables false
set_option linter.unusedSimpArgs false
def r18Step.T3 : Bool × List (List Nat × List Nat) := (true, [([], []), ([], []), ([], []), ([], []), ([2, 3], [2, 3]), ([0, 1, 4, 4], [0, 1, 4]), ([], []), ([], []), ([], []), ([8], [8]), ([5, 5, 0, 1, 2, 3, 4, 5], [5]), ([6, 10, 0, 1, 2, 3, 4, 5, 6, 10], [6]), ([7, 11, 0, 1, 2, 3, 4, 5, 6, 7, 10, 11], [7]), ([9, 12, 0, 1, 2, 3, 4, 5, 6, 7, 8, 9, 10, 11, 12], [9])])
def r18Step.B3 : List Nat := [0, 0, 0, 0, 12, 31, 0, 0, 0, 256, 63, 1151, 3327, 8191]
theorem r18Step.tab3 : rtab .any (opsOf Try.f48 3) = r18Step.T3 := by kernel_rfl
theorem r18Step.bits3 : waitsOk r18Step.T3.2 r18Step.B3 = true := by kernel_rfl
end Go.Proofs.Ythblnnboeikgcaa.B
end
