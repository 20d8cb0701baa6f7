import Derived.Test.YthblnnboeikgcaaYBeatRegular39
set_option linter.unusedVariables false
set_option linter.unusedSimpArgs false
namespace Go.Proofs.Ythblnnboeikgcaa.PlanLib
open Go.RowKit Go.Proofs.Ythblnnboeikgcaa.B Go.Proofs.YthblnnboeikgcaaW.PrintWords Go.Proofs.Ythblnnboeikgcaa.ConfLib
def king (n f d p r dr o s m fr : Int) (t : List Int) (x : Int) : Int := if x < 0 ∨ ConfLib.rounds n f d p r dr o s m fr t ≤ x then -1 else x / 3
theorem rounds_facts {n f d p r dr o s m fr : Int} {t : List Int} : 0 ≤ ConfLib.rounds n f d p r dr o s m fr t ∧ ConfLib.rounds n f d p r dr o s m fr t ≤ 15 := by
  unfold ConfLib.rounds
  split
  · rename_i h
    have := plain_facts h
    omega
  · omega
theorem king_at (n f d p r dr o s m fr : Int) (t : List Int) (x : Int) {k : Nat} (hk : 10 < k) : plan_King.f k n f d p r dr o s m fr t x = some (king n f d p r dr o s m fr t x) := by
  have hb := rounds_facts (n := n) (f := f) (d := d) (p := p) (r := r) (dr := dr) (o := o) (s := s) (m := m) (fr := fr) (t := t)
  unfold plan_King.f king
  by_cases h0 : x < 0
  · rw [if_pos h0, if_pos (.inl h0)]
  rw [if_neg h0, rounds_at n f d p r dr o s m fr t hk]
  simp only [Option.bind_some]
  by_cases h1 : x ≥ ConfLib.rounds n f d p r dr o s m fr t
  · rw [if_pos h1, if_pos (.inr h1)]
  · rw [if_neg h1, if_neg (by omega), Int.tdiv_eq_ediv_of_nonneg (by omega), ConfLib.wrap_small (by omega) (by omega)]
end Go.Proofs.Ythblnnboeikgcaa.PlanLib
