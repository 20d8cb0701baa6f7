import Derived.Test.YthblnnboeikgcaaYBeatSettles22
section
set_option linter.unusedVariables false
set_option linter.unusedSimpArgs false
set_option linter.unusedSectionVars false
namespace Go.Proofs.Ythblnnboeikgcaa.TallyLib
open Go.RowKit Go.Proofs.Ythblnnboeikgcaa.B Go.Proofs.YthblnnboeikgcaaW.PrintWords Go.Proofs.YthblnnboeikgcaaW.PrintMore Go.Proofs.Ythblnnboeikgcaa.ConfLib
def C (v : Int) (l : List Int) : Int := if v < 0 ∨ 3 ≤ v then 0 else (l.count v : Nat)
theorem count_at (v : Int) (l : List Int) (hl : l.length ≤ 1000000) : tally_Count.f v l = some (C v l) := by
  unfold tally_Count.f C
  by_cases h1 : v < 0
  · rw [if_pos h1, if_pos (.inl h1)]
  by_cases h2 : v ≥ 3
  · rw [if_neg h1, if_pos h2, if_pos (.inr h2)]
  · rw [if_neg h1, if_neg h2, if_pos hl, if_neg (by omega)]
    rfl
section
variable (n f d p r dr o s m fr : Int) (t : List Int)
def Q : Int := if plain n f d p r dr o s m fr t = 0 then n - f else 0
def S : Int := if plain n f d p r dr o s m fr t = 0 then f + 1 else 0
theorem quorum_at {k : Nat} (hk : 10 < k) : tally_Quorum.f k n f d p r dr o s m fr t = some (Q n f d p r dr o s m fr t) := by
  unfold tally_Quorum.f Q
  rw [plain_at n f d p r dr o s m fr t hk]
  simp only [Option.bind_some]
  by_cases hp : plain n f d p r dr o s m fr t = 0
  · have hb := plain_facts hp
    rw [if_pos hp, if_pos hp, ConfLib.wrap_small (by omega) (by omega)]
  · rw [if_neg hp, if_neg hp]
theorem some_at {k : Nat} (hk : 10 < k) : tally_Some.f k n f d p r dr o s m fr t = some (S n f d p r dr o s m fr t) := by
  unfold tally_Some.f S
  rw [plain_at n f d p r dr o s m fr t hk]
  simp only [Option.bind_some]
  by_cases hp : plain n f d p r dr o s m fr t = 0
  · have hb := plain_facts hp
    rw [if_pos hp, if_pos hp, ConfLib.wrap_small (by omega) (by omega)]
  · rw [if_neg hp, if_neg hp]
def E (v : Int) (l : List Int) : Bool := decide (plain n f d p r dr o s m fr t = 0 ∧ n - f ≤ C v l)
def M (l : List Int) : Int := if plain n f d p r dr o s m fr t = 0 then (if n - f ≤ C 1 l then 1 else if n - f ≤ C 0 l then 0 else 2) else 2
def L (now : Int) (l : List Int) : Int := if plain n f d p r dr o s m fr t = 0 then (if f + 1 ≤ C 0 l then 0 else if f + 1 ≤ C 1 l then 1 else if f + 1 ≤ C 2 l then 2 else now) else now
theorem enough_at (v : Int) (l : List Int) (hl : l.length ≤ 1000000) {k : Nat} (hk : 10 < k) : tally_Enough.f k n f d p r dr o s m fr t v l = some (E n f d p r dr o s m fr t v l) := by unfold tally_Enough.f E; rw [quorum_at n f d p r dr o s m fr t hk, count_at v l hl]; simp only [Option.bind_some]; unfold Q; by_cases hp : plain n f d p r dr o s m fr t = 0; { have hb := plain_facts hp; rw [if_pos hp, if_pos (by omega)]; simp [hp] }; { rw [if_neg hp, if_neg (by omega)]; simp [hp] }
theorem most_at (l : List Int) (hl : l.length ≤ 1000000) {k : Nat} (hk : 10 < k) : tally_Most.f k n f d p r dr o s m fr t l = some (M n f d p r dr o s m fr t l) := by
  unfold tally_Most.f M
  rw [quorum_at n f d p r dr o s m fr t hk]
  simp only [Option.bind_some]
  unfold Q
  by_cases hp : plain n f d p r dr o s m fr t = 0
  · have hb := plain_facts hp
    rw [if_pos hp, if_neg (by omega), if_pos hl, if_pos hp]
    simp [tally_counted_first.of, tally_counted_first.sel, C, tally_count.cnt]
  · rw [if_neg hp, if_pos rfl, if_neg hp]
theorem least_at (now : Int) (l : List Int) (hl : l.length ≤ 1000000) {k : Nat} (hk : 10 < k) : tally_Least.f k n f d p r dr o s m fr t now l = some (L n f d p r dr o s m fr t now l) := by
  unfold tally_Least.f L
  rw [some_at n f d p r dr o s m fr t hk]
  simp only [Option.bind_some]
  unfold S
  by_cases hp : plain n f d p r dr o s m fr t = 0
  · have hb := plain_facts hp
    rw [if_pos hp, if_neg (by omega), if_pos hl, if_pos hp]
    simp [tally_counted_first.of, tally_counted_first.sel, C, tally_count.cnt]
  · rw [if_neg hp, if_pos rfl, if_neg hp]
end
end Go.Proofs.Ythblnnboeikgcaa.TallyLib
end
section
namespace Go.Proofs.Ythblnnboeikgcaa.B
open Go.RowKit Go.Proofs.YthblnnboeikgcaaW.PrintWords Go.Proofs.YthblnnboeikgcaaW.PrintLast Go.Proofs.YthblnnboeikgcaaW.PrintMore
attribute [local go_sem] max2_int min2_int max_two min_two max_three min_three max_four min_four   -- for this text's walks alone
set_option linter.unusedVariables false
set_option linter.unusedSimpArgs false
def r17Begin.T3 : Bool × List (List Nat × List Nat) := (true, [([], []), ([0], [0]), ([1, 1], [1]), ([2], [2]), ([3, 2], [3]), ([], []), ([], []), ([5, 6, 4], [5, 6]), ([7], [7]), ([4, 8], [4, 8]), ([9, 7, 0, 1, 2, 3, 4, 5, 6, 7, 8, 9], [9])])
def r17Begin.B3 : List Nat := [0, 1, 3, 7, 15, 0, 0, 127, 255, 511, 1023]
theorem r17Begin.tab3 : rtab .any (opsOf Try.f34 3) = r17Begin.T3 := by kernel_rfl
theorem r17Begin.bits3 : waitsOk r17Begin.T3.2 r17Begin.B3 = true := by kernel_rfl
theorem r16Values.fld59_0 (v0 v1 : Value) (w : World) : (Instr.field 59 (.agg #[v0, v1]) 0).run Try.prog w = .ok (v0) w := by kernel_rfl
attribute [local go_sem] r16Values.fld59_0
end Go.Proofs.Ythblnnboeikgcaa.B
end
section
namespace Go.Proofs.Ythblnnboeikgcaa.B
open Go.RowKit Go.Proofs.YthblnnboeikgcaaW.PrintWords Go.Proofs.YthblnnboeikgcaaW.PrintLast Go.Proofs.YthblnnboeikgcaaW.PrintMore
attribute [local go_sem] max2_int min2_int max_two min_two max_three min_three max_four min_four   -- for this text's walks alone
set_option linter.unusedVariables false
set_option linter.unusedSimpArgs false
def r14told.f (a0 : Int) : Option (Int) := if a0 = 1 then (some 1) else (if a0 = 2 then (some 1) else (some 0))
end Go.Proofs.Ythblnnboeikgcaa.B
end
section
set_option linter.unusedVariables false
set_option linter.unusedSimpArgs false
set_option linter.unusedSectionVars false
namespace Go.Proofs.Ythblnnboeikgcaa.TallyLib
open Go.RowKit Go.Proofs.Ythblnnboeikgcaa.B Go.Proofs.YthblnnboeikgcaaW.PrintWords Go.Proofs.YthblnnboeikgcaaW.PrintMore Go.Proofs.Ythblnnboeikgcaa.ConfLib
theorem C_nil (v : Int) : C v [] = 0 := by
  unfold C
  split <;> rfl
section
variable (n f d p r dr o s m fr : Int) (t : List Int)
end
end Go.Proofs.Ythblnnboeikgcaa.TallyLib
end
