import Derived.Test.YthblnnboeikgcaaYBeatSteps24
set_option linter.unusedVariables false
set_option linter.unusedSimpArgs false
set_option linter.unusedSectionVars false
namespace Go.Proofs.Ythblnnboeikgcaa.TallyLib
open Go.RowKit Go.Proofs.Ythblnnboeikgcaa.B Go.Proofs.YthblnnboeikgcaaW.PrintWords Go.Proofs.YthblnnboeikgcaaW.PrintMore Go.Proofs.Ythblnnboeikgcaa.ConfLib
def C (v : Int) (l : List Int) : Int := if v < 0 ∨ 3 ≤ v then 0 else (l.count v : Nat)
theorem count_at (v : Int) (l : List Int) (hl : l.length ≤ 1000000) : tally_Count.f v l = some (C v l) := by
  unfold tally_Count.f C
  by_cases h1 : v < 0
  · rw [if_pos h1, if_pos (.inl h1)]
  by_cases h2 : v ≥ 3
  · rw [if_neg h1, if_pos h2, if_pos (.inr h2)]
  · rw [if_neg h1, if_neg h2, if_pos hl, if_neg (by omega)]
    rfl
section
variable (n f d p r dr o s m fr : Int) (t : List Int)
def Q : Int := if plain n f d p r dr o s m fr t = 0 then n - f else 0
def S : Int := if plain n f d p r dr o s m fr t = 0 then f + 1 else 0
theorem quorum_at {k : Nat} (hk : 10 < k) : tally_Quorum.f k n f d p r dr o s m fr t = some (Q n f d p r dr o s m fr t) := by
  unfold tally_Quorum.f Q
  rw [plain_at n f d p r dr o s m fr t hk]
  simp only [Option.bind_some]
  by_cases hp : plain n f d p r dr o s m fr t = 0
  · have hb := plain_facts hp
    rw [if_pos hp, if_pos hp, ConfLib.wrap_small (by omega) (by omega)]
  · rw [if_neg hp, if_neg hp]
theorem some_at {k : Nat} (hk : 10 < k) : tally_Some.f k n f d p r dr o s m fr t = some (S n f d p r dr o s m fr t) := by
  unfold tally_Some.f S
  rw [plain_at n f d p r dr o s m fr t hk]
  simp only [Option.bind_some]
  by_cases hp : plain n f d p r dr o s m fr t = 0
  · have hb := plain_facts hp
    rw [if_pos hp, if_pos hp, ConfLib.wrap_small (by omega) (by omega)]
  · rw [if_neg hp, if_neg hp]
def E (v : Int) (l : List Int) : Bool := decide (plain n f d p r dr o s m fr t = 0 ∧ n - f ≤ C v l)
def M (l : List Int) : Int := if plain n f d p r dr o s m fr t = 0 then (if n - f ≤ C 1 l then 1 else if n - f ≤ C 0 l then 0 else 2) else 2
def L (now : Int) (l : List Int) : Int := if plain n f d p r dr o s m fr t = 0 then (if f + 1 ≤ C 0 l then 0 else if f + 1 ≤ C 1 l then 1 else if f + 1 ≤ C 2 l then 2 else now) else now
theorem enough_at (v : Int) (l : List Int) (hl : l.length ≤ 1000000) {k : Nat} (hk : 10 < k) : tally_Enough.f k n f d p r dr o s m fr t v l = some (E n f d p r dr o s m fr t v l) := by unfold tally_Enough.f E; rw [quorum_at n f d p r dr o s m fr t hk, count_at v l hl]; simp only [Option.bind_some]; unfold Q; by_cases hp : plain n f d p r dr o s m fr t = 0; { have hb := plain_facts hp; rw [if_pos hp, if_pos (by omega)]; simp [hp] }; { rw [if_neg hp, if_neg (by omega)]; simp [hp] }
theorem most_at (l : List Int) (hl : l.length ≤ 1000000) {k : Nat} (hk : 10 < k) : tally_Most.f k n f d p r dr o s m fr t l = some (M n f d p r dr o s m fr t l) := by
  unfold tally_Most.f M
  rw [quorum_at n f d p r dr o s m fr t hk]
  simp only [Option.bind_some]
  unfold Q
  by_cases hp : plain n f d p r dr o s m fr t = 0
  · have hb := plain_facts hp
    rw [if_pos hp, if_neg (by omega), if_pos hl, if_pos hp]
    simp [tally_counted_first.of, tally_counted_first.sel, C, tally_count.cnt]
  · rw [if_neg hp, if_pos rfl, if_neg hp]
theorem least_at (now : Int) (l : List Int) (hl : l.length ≤ 1000000) {k : Nat} (hk : 10 < k) : tally_Least.f k n f d p r dr o s m fr t now l = some (L n f d p r dr o s m fr t now l) := by
  unfold tally_Least.f L
  rw [some_at n f d p r dr o s m fr t hk]
  simp only [Option.bind_some]
  unfold S
  by_cases hp : plain n f d p r dr o s m fr t = 0
  · have hb := plain_facts hp
    rw [if_pos hp, if_neg (by omega), if_pos hl, if_pos hp]
    simp [tally_counted_first.of, tally_counted_first.sel, C, tally_count.cnt]
  · rw [if_neg hp, if_pos rfl, if_neg hp]
end
end Go.Proofs.Ythblnnboeikgcaa.TallyLib
