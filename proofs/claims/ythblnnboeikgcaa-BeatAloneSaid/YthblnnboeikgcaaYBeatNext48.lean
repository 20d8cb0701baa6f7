import Derived.Test.YthblnnboeikgcaaYBeatNext46
import Derived.Test.YthblnnboeikgcaaYBeatNext47
import Derived.RangeFuncNested
import Derived.RangeFuncBound
import Derived.RangeFuncCalls
import Derived.RangeFuncLeaves
import Derived.Shelf.Abstract
import Derived.Shelf.RegionOpen
import Derived.WalkKit
import Derived.OwnWalkIn
import Derived.TacticsInMore
import Derived.LoopNIn
import Derived.LoopIn
import Derived.Maps.AppendAt
section
namespace Go.Proofs.Ythblnnboeikgcaa.beatNext
open Go.RowKit Go.Proofs.Ythblnnboeikgcaa.B Go.Proofs.YthblnnboeikgcaaW.PrintWords Go.Proofs.YthblnnboeikgcaaW.PrintLast Go.Proofs.YthblnnboeikgcaaW.PrintMore
set_option linter.unusedVariables false
def W3 (x : Int) : Prop := (Lit.int .i64 x).wf = true
theorem op3 : Opens Try.prog 3 (Kd.int .i64) W3 := Opens.int Try.underlying3
def W22 (x : List Int) : Prop := x.length * 8 ≤ 140737488351232 ∧ ∀ y ∈ x, W3 y
theorem op22 : Opens Try.prog 22 (Kd.slice 3 (Kd.int .i64)) W22 := Opens.slice Try.underlying22 (by kernel_rfl) (by kernel_rfl) op3
def W24 (x : S24) : Prop := W3 x.f0 ∧ W3 x.f1 ∧ W3 x.f2 ∧ W3 x.f3 ∧ W3 x.f4 ∧ W3 x.f5 ∧ W3 x.f6 ∧ W3 x.f7 ∧ W3 x.f8 ∧ W3 x.f9 ∧ W22 x.f10
theorem op24 : Opens Try.prog 24 k24 W24 := Opens.iso (fun x : S24 => (x.f0, x.f1, x.f2, x.f3, x.f4, x.f5, x.f6, x.f7, x.f8, x.f9, x.f10)) (fun p => ⟨p.1, p.2.1, p.2.2.1, p.2.2.2.1, p.2.2.2.2.1, p.2.2.2.2.2.1, p.2.2.2.2.2.2.1, p.2.2.2.2.2.2.2.1, p.2.2.2.2.2.2.2.2.1, p.2.2.2.2.2.2.2.2.2.1, p.2.2.2.2.2.2.2.2.2.2⟩) (fun _ => rfl) (Opens.struct (tot := 11) Try.underlying24 (by kernel_rfl) (OpensF.cons (s := 1) rfl (by kernel_rfl) op3 (OpensF.cons (s := 1) rfl (by kernel_rfl) op3 (OpensF.cons (s := 1) rfl (by kernel_rfl) op3 (OpensF.cons (s := 1) rfl (by kernel_rfl) op3 (OpensF.cons (s := 1) rfl (by kernel_rfl) op3 (OpensF.cons (s := 1) rfl (by kernel_rfl) op3 (OpensF.cons (s := 1) rfl (by kernel_rfl) op3 (OpensF.cons (s := 1) rfl (by kernel_rfl) op3 (OpensF.cons (s := 1) rfl (by kernel_rfl) op3 (OpensF.cons (s := 1) rfl (by kernel_rfl) op3 (OpensF.last rfl (by kernel_rfl) op22))))))))))))
def W4 (x : Bool) : Prop := True
theorem op4 : Opens Try.prog 4 Kd.bool W4 := Opens.bool Try.underlying4
def Pure : Prop := ∀ (x0 : S24) (x1 : Int) (x2 : Int) (x3 : Bool), W24 x0 → W3 x1 → W3 x2 → W4 x3 → ∃ k, l18BeatNext.f k x0.f0 x0.f1 x0.f2 x0.f3 x0.f4 x0.f5 x0.f6 x0.f7 x0.f8 x0.f9 x0.f10 x1 x2 x3 = some true
end Go.Proofs.Ythblnnboeikgcaa.beatNext
end
section
set_option linter.unusedVariables false
set_option linter.unusedSimpArgs false
set_option linter.unusedSectionVars false
namespace Go.Proofs.Ythblnnboeikgcaa.VecLib
open Go.RowKit Go.Proofs.Ythblnnboeikgcaa.B Go.Proofs.YthblnnboeikgcaaW.PrintWords Go.Proofs.YthblnnboeikgcaaW.PrintMore Go.Proofs.Ythblnnboeikgcaa.ConfLib Go.Proofs.Ythblnnboeikgcaa.TallyLib Go.Proofs.Ythblnnboeikgcaa.KingLib
def hon (F : List Int) (k : Nat) : Bool := !F.contains (k : Int)
section
variable (n f d p r dr o s m fr : Int) (t : List Int)
variable {n f d p r dr o s m fr t} {F : List Int} {w : Nat} {now : Nat → Nat → ByteArray} {VS : Nat → Nat → List ByteArray}
end
end Go.Proofs.Ythblnnboeikgcaa.VecLib
end
section
set_option linter.unusedVariables false
set_option linter.unusedSimpArgs false
namespace Go.Proofs.Ythblnnboeikgcaa.PlanLib
open Go.RowKit Go.Proofs.Ythblnnboeikgcaa.B Go.Proofs.YthblnnboeikgcaaW.PrintWords Go.Proofs.Ythblnnboeikgcaa.ConfLib
def sat (a m : Int) : Int := if a < 0 ∨ m < 0 then 0 else if a ≥ m then m else a + 1
theorem sat_at (a m : Int) (hm : m ≤ 1000000) {k : Nat} (hk : 0 < k) : num_Sat.f k a m = some (sat a m) := by
  obtain ⟨k, rfl⟩ : ∃ j, k = j + 1 := ⟨k - 1, by omega⟩
  unfold num_Sat.f sat
  by_cases h1 : a < 0
  · rw [if_pos h1, if_pos (.inl h1)]
    simp only [num_Sat.j0]
    rw [if_pos (decide_eq_true h1)]
  · rw [if_neg h1]
    simp only [num_Sat.j0]
    by_cases h2 : m < 0
    · rw [if_pos (decide_eq_true h2), if_pos (.inr h2)]
    · rw [if_neg (by simpa using h2), if_neg (show ¬ (a < 0 ∨ m < 0) by omega)]
      by_cases h3 : a ≥ m
      · rw [if_pos h3, if_pos h3]
      · rw [if_neg h3, if_neg h3, ConfLib.wrap_small (by omega) (by omega)]
theorem ref_sat_at (a m : Int) (hm : m ≤ 1000000) {k : Nat} (hk : 10 < k) : r01Sat.f k a m = some (sat a m) := by
  obtain ⟨k, rfl⟩ : ∃ j, k = j + 1 := ⟨k - 1, by omega⟩
  unfold r01Sat.f sat
  by_cases h1 : a < 0
  · rw [if_pos h1, if_pos (.inl h1)]
    simp only [r01Sat.j0]
    rfl
  · rw [if_neg h1]
    simp only [r01Sat.j0]
    by_cases h2 : m < 0
    · rw [if_pos (decide_eq_true h2), if_pos (.inr h2)]
    · rw [if_neg (by simpa using h2), if_neg (show ¬ (a < 0 ∨ m < 0) by omega)]
      by_cases h3 : a ≥ m
      · rw [if_pos h3, if_pos h3]
      · rw [if_neg h3, if_neg h3, ConfLib.wrap_small (by omega) (by omega)]
end Go.Proofs.Ythblnnboeikgcaa.PlanLib
end
section
namespace Go.Proofs.Ythblnnboeikgcaa.B
open Go.RowKit Go.Proofs.YthblnnboeikgcaaW.PrintWords Go.Proofs.YthblnnboeikgcaaW.PrintLast Go.Proofs.YthblnnboeikgcaaW.PrintMore
attribute [local go_sem] max2_int min2_int max_two min_two max_three min_three max_four min_four   -- for this text's walks alone
set_option linter.unusedVariables false
set_option linter.unusedSimpArgs false
attribute [local go_sem] Oper.semAt_some
def pipe_Tell.ok (d R : Int) (v r : ByteArray) : Prop := 0 ≤ R ∧ R ≤ 15 ∧ (R = 0 ∨ (0 ≤ d ∧ d ≤ 4)) ∧ r.size ≤ 1000000 ∧ ∀ j, j < R.toNat → (j : Int) * d < (v.size : Int)
instance (d R : Int) (v r : ByteArray) : Decidable (pipe_Tell.ok d R v r) := by unfold pipe_Tell.ok; infer_instance
def pipe_Tell.told (d : Int) (v : ByteArray) (m : Nat) : List Int := (List.range m).map (fun (j : Nat) => bt v ((j : Int) * d))
end Go.Proofs.Ythblnnboeikgcaa.B
end
section
set_option linter.unusedVariables false
set_option linter.unusedSimpArgs false
set_option linter.unusedSectionVars false
namespace Go.Proofs.Ythblnnboeikgcaa.PipeLib
open Go.RowKit Go.Proofs.Ythblnnboeikgcaa.B Go.Proofs.YthblnnboeikgcaaW.PrintWords Go.Proofs.YthblnnboeikgcaaW.PrintMore Go.Proofs.Ythblnnboeikgcaa.ConfLib Go.Proofs.Ythblnnboeikgcaa.TallyLib Go.Proofs.Ythblnnboeikgcaa.KingLib Go.Proofs.Ythblnnboeikgcaa.VecLib
section
variable (n f d p r dr o s m fr : Int) (t : List Int)
theorem len_pos (hp : plain n f d p r dr o s m fr t = 0) : 3 ≤ ConfLib.length n f d p r dr o s m fr t := by
  have hf := plain_facts hp
  have := mul_d (f := f) (d := d) (by omega) (by omega)
  unfold ConfLib.length
  rw [if_pos hp]
  omega
end
end Go.Proofs.Ythblnnboeikgcaa.PipeLib
end
section
namespace Go.Proofs.Ythblnnboeikgcaa.B
open Go.RowKit Go.Proofs.YthblnnboeikgcaaW.PrintWords Go.Proofs.YthblnnboeikgcaaW.PrintLast Go.Proofs.YthblnnboeikgcaaW.PrintMore
attribute [local go_sem] max2_int min2_int max_two min_two max_three min_three max_four min_four   -- for this text's walks alone
set_option linter.unusedVariables false
set_option linter.unusedSimpArgs false
def r18Step.T3 : Bool × List (List Nat × List Nat) := (true, [([], []), ([], []), ([], []), ([], []), ([2, 3], [2, 3]), ([0, 1, 4, 4], [0, 1, 4]), ([], []), ([], []), ([], []), ([8], [8]), ([5, 5, 0, 1, 2, 3, 4, 5], [5]), ([6, 10, 0, 1, 2, 3, 4, 5, 6, 10], [6]), ([7, 11, 0, 1, 2, 3, 4, 5, 6, 7, 10, 11], [7]), ([9, 12, 0, 1, 2, 3, 4, 5, 6, 7, 8, 9, 10, 11, 12], [9])])
def r18Step.B3 : List Nat := [0, 0, 0, 0, 12, 31, 0, 0, 0, 256, 63, 1151, 3327, 8191]
theorem r18Step.tab3 : rtab .any (opsOf Try.f48 3) = r18Step.T3 := by kernel_rfl
theorem r18Step.bits3 : waitsOk r18Step.T3.2 r18Step.B3 = true := by kernel_rfl
end Go.Proofs.Ythblnnboeikgcaa.B
end
