import Derived.Test.YthblnnboeikgcaaYAgreeTogether43
section
set_option linter.unusedVariables false
set_option linter.unusedSimpArgs false
namespace Go.Proofs.Ythblnnboeikgcaa.ConfLib
open Go.RowKit Go.Proofs.Ythblnnboeikgcaa.X Go.Proofs.YthblnnboeikgcaaW.PrintWords Go.Proofs.YthblnnboeikgcaaW.PrintMore
def rounds (n f d p r dr o s m fr : Int) (t : List Int) : Int := if plain n f d p r dr o s m fr t = 0 then 3 * (f + 1) else 0
def length (n f d p r dr o s m fr : Int) (t : List Int) : Int := if plain n f d p r dr o s m fr t = 0 then 3 * (f + 1) * d else 0
def bits (n f d p r dr o s m fr : Int) (t : List Int) : Int := if plain n f d p r dr o s m fr t = 0 then 8 + n else 0
theorem plain_facts {n f d p r dr o s m fr : Int} {t : List Int} (h : plain n f d p r dr o s m fr t = 0) : 4 ≤ n ∧ n ≤ 13 ∧ 0 ≤ f ∧ f ≤ 4 ∧ 3 * f < n ∧ 1 ≤ d ∧ d ≤ 4 ∧ 6 * (f + 1) * d + 1 ≤ p ∧ p ≤ 400 := by
  obtain ⟨h1, h2, h3, h4⟩ := plain_zero.1 h
  unfold nodesOk at h1
  unfold delayOk at h2
  unfold numbersOk at h3
  exact ⟨h1.1, h1.2.1, h1.2.2.1, h1.2.2.2.1, h1.2.2.2.2, h2.1, h2.2, h3.1, h3.2.1⟩
theorem mul_d {f d : Int} (hf : 0 ≤ f ∧ f ≤ 4) (hd : 1 ≤ d ∧ d ≤ 4) : 3 ≤ 3 * (f + 1) * d ∧ 3 * (f + 1) * d ≤ 60 ∧ 6 * (f + 1) * d = 2 * (3 * (f + 1) * d) := by
  have hd2 : d = 1 ∨ d = 2 ∨ d = 3 ∨ d = 4 := by omega
  rcases hd2 with rfl | rfl | rfl | rfl <;> omega
theorem w3 {f : Int} (hf : 0 ≤ f ∧ f ≤ 4) : wrap64 (3 * wrap64 (f + 1)) = 3 * (f + 1) := by
  rw [wrap_small (n := f + 1) (by omega) (by omega), wrap_small (by omega) (by omega)]
theorem rounds_at (n f d p r dr o s m fr : Int) (t : List Int) {k : Nat} (hk : 10 < k) : conf_Rounds.f k n f d p r dr o s m fr t = some (rounds n f d p r dr o s m fr t) := by
  unfold conf_Rounds.f rounds
  rw [plain_at n f d p r dr o s m fr t hk]
  simp only [Option.bind_some]
  by_cases h : plain n f d p r dr o s m fr t = 0
  · have hb := plain_facts h
    rw [if_pos h, if_pos h, w3 (by omega)]
  · rw [if_neg h, if_neg h]
theorem length_at (n f d p r dr o s m fr : Int) (t : List Int) {k : Nat} (hk : 10 < k) : conf_Length.f k n f d p r dr o s m fr t = some (length n f d p r dr o s m fr t) := by
  unfold conf_Length.f length
  rw [rounds_at n f d p r dr o s m fr t hk]
  simp only [Option.bind_some]
  unfold rounds
  by_cases h : plain n f d p r dr o s m fr t = 0
  · have hb := plain_facts h
    have hm := mul_d (f := f) (d := d) (by omega) (by omega)
    have hx : mx d 0 = d := by unfold mx; rw [if_neg (by omega)]
    rw [if_pos h, if_pos h, hx, wrap_small (by omega) (by omega)]
  · rw [if_neg h, if_neg h, Int.zero_mul, wrap_small (by omega) (by omega)]
theorem ref_length_at (n f d p r dr o s m fr : Int) (t : List Int) {k : Nat} (hk : 700 < k) : r03Length.f k n f d p r dr o s m fr t = some (length n f d p r dr o s m fr t) := by
  unfold r03Length.f length
  rw [ref_plain_at n f d p r dr o s m fr t hk]
  simp only [Option.bind_some]
  by_cases h : plain n f d p r dr o s m fr t = 0
  · have hb := plain_facts h
    have hm := mul_d (f := f) (d := d) (by omega) (by omega)
    rw [if_pos h, if_pos h, w3 (by omega), wrap_small (by omega) (by omega)]
  · rw [if_neg h, if_neg h]
theorem ref_bits_at (n f d p r dr o s m fr : Int) (t : List Int) {k : Nat} (hk : 700 < k) : r03Bits.f k n f d p r dr o s m fr t = some (bits n f d p r dr o s m fr t) := by
  unfold r03Bits.f bits
  rw [ref_plain_at n f d p r dr o s m fr t hk]
  simp only [Option.bind_some]
  by_cases h : plain n f d p r dr o s m fr t = 0
  · have hb := plain_facts h
    rw [if_pos h, if_pos h, wrap_small (by omega) (by omega)]
  · rw [if_neg h, if_neg h]
end Go.Proofs.Ythblnnboeikgcaa.ConfLib
end
section
set_option linter.unusedVariables false
set_option linter.unusedSimpArgs false
set_option linter.unusedSectionVars false
namespace Go.Proofs.Ythblnnboeikgcaa.TallyLib
open Go.RowKit Go.Proofs.Ythblnnboeikgcaa.X Go.Proofs.YthblnnboeikgcaaW.PrintWords Go.Proofs.YthblnnboeikgcaaW.PrintMore Go.Proofs.Ythblnnboeikgcaa.ConfLib
def C (v : Int) (l : List Int) : Int := if v < 0 ∨ 3 ≤ v then 0 else (l.count v : Nat)
theorem count_at (v : Int) (l : List Int) (hl : l.length ≤ 1000000) : tally_Count.f v l = some (C v l) := by
  unfold tally_Count.f C
  by_cases h1 : v < 0
  · rw [if_pos h1, if_pos (.inl h1)]
  by_cases h2 : v ≥ 3
  · rw [if_neg h1, if_pos h2, if_pos (.inr h2)]
  · rw [if_neg h1, if_neg h2, if_pos hl, if_neg (by omega)]
    rfl
section
variable (n f d p r dr o s m fr : Int) (t : List Int)
def Q : Int := if plain n f d p r dr o s m fr t = 0 then n - f else 0
def S : Int := if plain n f d p r dr o s m fr t = 0 then f + 1 else 0
theorem quorum_at {k : Nat} (hk : 10 < k) : tally_Quorum.f k n f d p r dr o s m fr t = some (Q n f d p r dr o s m fr t) := by
  unfold tally_Quorum.f Q
  rw [plain_at n f d p r dr o s m fr t hk]
  simp only [Option.bind_some]
  by_cases hp : plain n f d p r dr o s m fr t = 0
  · have hb := plain_facts hp
    rw [if_pos hp, if_pos hp, ConfLib.wrap_small (by omega) (by omega)]
  · rw [if_neg hp, if_neg hp]
theorem some_at {k : Nat} (hk : 10 < k) : tally_Some.f k n f d p r dr o s m fr t = some (S n f d p r dr o s m fr t) := by
  unfold tally_Some.f S
  rw [plain_at n f d p r dr o s m fr t hk]
  simp only [Option.bind_some]
  by_cases hp : plain n f d p r dr o s m fr t = 0
  · have hb := plain_facts hp
    rw [if_pos hp, if_pos hp, ConfLib.wrap_small (by omega) (by omega)]
  · rw [if_neg hp, if_neg hp]
def E (v : Int) (l : List Int) : Bool := decide (plain n f d p r dr o s m fr t = 0 ∧ n - f ≤ C v l)
def M (l : List Int) : Int := if plain n f d p r dr o s m fr t = 0 then (if n - f ≤ C 1 l then 1 else if n - f ≤ C 0 l then 0 else 2) else 2
def L (now : Int) (l : List Int) : Int := if plain n f d p r dr o s m fr t = 0 then (if f + 1 ≤ C 0 l then 0 else if f + 1 ≤ C 1 l then 1 else if f + 1 ≤ C 2 l then 2 else now) else now
theorem enough_at (v : Int) (l : List Int) (hl : l.length ≤ 1000000) {k : Nat} (hk : 10 < k) : tally_Enough.f k n f d p r dr o s m fr t v l = some (E n f d p r dr o s m fr t v l) := by unfold tally_Enough.f E; rw [quorum_at n f d p r dr o s m fr t hk, count_at v l hl]; simp only [Option.bind_some]; unfold Q; by_cases hp : plain n f d p r dr o s m fr t = 0; { have hb := plain_facts hp; rw [if_pos hp, if_pos (by omega)]; simp [hp] }; { rw [if_neg hp, if_neg (by omega)]; simp [hp] }
theorem most_at (l : List Int) (hl : l.length ≤ 1000000) {k : Nat} (hk : 10 < k) : tally_Most.f k n f d p r dr o s m fr t l = some (M n f d p r dr o s m fr t l) := by
  unfold tally_Most.f M
  rw [quorum_at n f d p r dr o s m fr t hk]
  simp only [Option.bind_some]
  unfold Q
  by_cases hp : plain n f d p r dr o s m fr t = 0
  · have hb := plain_facts hp
    rw [if_pos hp, if_neg (by omega), if_pos hl, if_pos hp]
    simp [tally_counted_first.of, tally_counted_first.sel, C, tally_count.cnt]
  · rw [if_neg hp, if_pos rfl, if_neg hp]
theorem least_at (now : Int) (l : List Int) (hl : l.length ≤ 1000000) {k : Nat} (hk : 10 < k) : tally_Least.f k n f d p r dr o s m fr t now l = some (L n f d p r dr o s m fr t now l) := by
  unfold tally_Least.f L
  rw [some_at n f d p r dr o s m fr t hk]
  simp only [Option.bind_some]
  unfold S
  by_cases hp : plain n f d p r dr o s m fr t = 0
  · have hb := plain_facts hp
    rw [if_pos hp, if_neg (by omega), if_pos hl, if_pos hp]
    simp [tally_counted_first.of, tally_counted_first.sel, C, tally_count.cnt]
  · rw [if_neg hp, if_pos rfl, if_neg hp]
end
end Go.Proofs.Ythblnnboeikgcaa.TallyLib
end
section
namespace Go.Proofs.Ythblnnboeikgcaa.X
open Go.RowKit Go.Proofs.YthblnnboeikgcaaW.PrintWords Go.Proofs.YthblnnboeikgcaaW.PrintLast Go.Proofs.YthblnnboeikgcaaW.PrintMore
attribute [local go_sem] max2_int min2_int max_two min_two max_three min_three max_four min_four   -- for this text's walks alone
set_option linter.unusedVariables false
set_option linter.unusedSimpArgs false
def r13Enough.T1 : Bool × List (List Nat × List Nat) := (true, [([], []), ([0], [0]), ([1], [1]), ([2, 1], [2]), ([3], [3]), ([3], [3]), ([4, 5, 3, 3], [3, 4, 5]), ([3], [3]), ([7, 3], [3, 7]), ([3], [3]), ([9, 3], [3, 9]), ([8, 10, 3], [3, 8, 10]), ([6, 11, 3], [3, 6, 11]), ([3, 12], [3, 12]), ([13, 6, 0, 1, 2, 3, 4, 5, 6, 7, 8, 9, 10, 11, 12, 13], [13])])
def r13Enough.B1 : List Nat := [0, 1, 3, 7, 15, 15, 63, 15, 143, 15, 527, 1935, 4095, 8191, 16383]
theorem r13Enough.tab1 : rtab .any (opsOf Try.f97 1) = r13Enough.T1 := by kernel_rfl
theorem r13Enough.bits1 : waitsOk r13Enough.T1.2 r13Enough.B1 = true := by kernel_rfl
end Go.Proofs.Ythblnnboeikgcaa.X
end
section
set_option linter.unusedVariables false
set_option linter.unusedSimpArgs false
set_option linter.unusedSectionVars false
namespace Go.Proofs.Ythblnnboeikgcaa.TallyLib
open Go.RowKit Go.Proofs.Ythblnnboeikgcaa.X Go.Proofs.YthblnnboeikgcaaW.PrintWords Go.Proofs.YthblnnboeikgcaaW.PrintMore Go.Proofs.Ythblnnboeikgcaa.ConfLib
theorem C_nil (v : Int) : C v [] = 0 := by
  unfold C
  split <;> rfl
section
variable (n f d p r dr o s m fr : Int) (t : List Int)
end
end Go.Proofs.Ythblnnboeikgcaa.TallyLib
end
