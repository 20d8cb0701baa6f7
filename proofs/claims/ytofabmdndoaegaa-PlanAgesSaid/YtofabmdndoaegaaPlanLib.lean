/- Which exchange is told and heard, and whose it is: what the printed functions give, as plain sentences. -/
import Derived.Test.YtofabmdndoaegaaConfLib2
import Derived.Test.YtofabmdndoaegaaXx7
import Derived.Test.YtofabmdndoaegaaXx7
set_option linter.unusedVariables false
set_option linter.unusedSimpArgs false
namespace Go.Proofs.Ytofabmdndoaegaa.PlanLib
open Go.RowKit Go.Proofs.Ytofabmdndoaegaa.X Go.Proofs.YtofabmdndoaegaaW.PrintWords Go.Proofs.Ytofabmdndoaegaa.ConfLib
/-- The exchange so many ticks behind the beginning of the first one. -/
def ex (d r t : Int) : Int := if t < 0 ∨ t % d ≠ 0 ∨ r ≤ t / d then -1 else t / d
def tells (n f d p r dr o s m fr : Int) (t : List Int) (age : Int) : Int := if plain n f d p r dr o s m fr t = 0 then ex d (3 * (f + 1)) age else -1
def hears (n f d p r dr o s m fr : Int) (t : List Int) (age : Int) : Int := if plain n f d p r dr o s m fr t = 0 then (if age < d then -1 else ex d (3 * (f + 1)) (age - d)) else -1
def king (n f d p r dr o s m fr : Int) (t : List Int) (x : Int) : Int := if x < 0 ∨ ConfLib.rounds n f d p r dr o s m fr t ≤ x then -1 else x / 3
theorem i64_bounds {n : Int} (h : (Lit.int .i64 n).wf = true) : -9223372036854775808 ≤ n ∧ n ≤ 9223372036854775807 := by
  simp [Lit.wf, IntKind.min, IntKind.max, IntKind.signed, IntKind.bits] at h
  omega
theorem ex_cases {d r t : Int} (hd : 1 ≤ d ∧ d ≤ 4) : (ex d r t = -1 ∧ ∀ x, 0 ≤ x → x < r → t ≠ x * d) ∨ ∃ x, 0 ≤ x ∧ x < r ∧ t = x * d ∧ ex d r t = x := by
  have h : d = 1 ∨ d = 2 ∨ d = 3 ∨ d = 4 := by omega
  unfold ex
  rcases h with rfl | rfl | rfl | rfl
  all_goals
    split
    · exact .inl ⟨rfl, fun x h1 h2 h3 => by omega⟩
    · exact .inr ⟨_, by omega, by omega, by omega, rfl⟩
theorem ex_eq {d r t x : Int} (hd : 1 ≤ d ∧ d ≤ 4) (h0 : 0 ≤ x) (hx : x < r) (h : t = x * d) : ex d r t = x := by
  rcases ex_cases (r := r) (t := t) hd with ⟨_, hn⟩ | ⟨y, h1, h2, h3, h4⟩
  · exact absurd h (hn x h0 hx)
  · rw [h4]
    have hd' : d = 1 ∨ d = 2 ∨ d = 3 ∨ d = 4 := by omega
    rcases hd' with rfl | rfl | rfl | rfl <;> omega
theorem ex_none {d r t : Int} (hd : 1 ≤ d ∧ d ≤ 4) (h : ∀ x, 0 ≤ x → x < r → t ≠ x * d) : ex d r t = -1 := by
  rcases ex_cases (r := r) (t := t) hd with ⟨h', _⟩ | ⟨y, h1, h2, h3, h4⟩
  · exact h'
  · exact absurd h3 (h y h1 h2)
theorem mul_small {x d : Int} (hd : 1 ≤ d ∧ d ≤ 4) (h0 : 0 ≤ x) (h1 : x ≤ 20) : 0 ≤ x * d ∧ x * d ≤ 80 := by
  have h : d = 1 ∨ d = 2 ∨ d = 3 ∨ d = 4 := by omega
  rcases h with rfl | rfl | rfl | rfl <;> omega
theorem rounds_facts {n f d p r dr o s m fr : Int} {t : List Int} : 0 ≤ ConfLib.rounds n f d p r dr o s m fr t ∧ ConfLib.rounds n f d p r dr o s m fr t ≤ 15 := by
  unfold ConfLib.rounds
  split
  · rename_i h
    have := plain_facts h
    omega
  · omega
theorem at_at (n f d p r dr o s m fr : Int) (t : List Int) (age : Int) (hage : (Lit.int .i64 age).wf = true) (hp : plain n f d p r dr o s m fr t = 0) {k : Nat} (hk : 10 < k) : plan_at.f k n f d p r dr o s m fr t age = some (ex d (3 * (f + 1)) age) := by
  have hb := plain_facts hp
  have ha := i64_bounds hage
  unfold plan_at.f ex
  by_cases h0 : age < 0
  · rw [if_pos h0, if_pos (.inl h0)]
  rw [if_neg h0, if_neg (by omega), Int.tmod_eq_emod_of_nonneg (by omega), Int.tdiv_eq_ediv_of_nonneg (by omega)]
  by_cases h1 : age % d = 0
  · rw [if_pos h1, rounds_at n f d p r dr o s m fr t hk]
    have hq : age / d ≤ age := Int.ediv_le_self _ (by omega)
    have hq0 : 0 ≤ age / d := Int.ediv_nonneg (by omega) (by omega)
    rw [ConfLib.wrap_small (by omega) (by omega), show ConfLib.rounds n f d p r dr o s m fr t = 3 * (f + 1) from by unfold ConfLib.rounds; rw [if_pos hp]]
    simp only [Option.bind_some]
    by_cases h2 : age / d ≥ 3 * (f + 1)
    · rw [if_pos h2, if_pos (.inr (.inr h2))]
    · rw [if_neg h2, if_neg (by omega)]
  · rw [if_neg h1, if_pos (.inr (.inl h1))]
theorem tells_at (n f d p r dr o s m fr : Int) (t : List Int) (age : Int) (hage : (Lit.int .i64 age).wf = true) {k : Nat} (hk : 10 < k) : plan_Tells.f k n f d p r dr o s m fr t age = some (tells n f d p r dr o s m fr t age) := by
  unfold plan_Tells.f tells
  rw [plain_at n f d p r dr o s m fr t hk]
  simp only [Option.bind_some]
  by_cases hp : plain n f d p r dr o s m fr t = 0
  · rw [if_pos hp, if_pos hp, at_at n f d p r dr o s m fr t age hage hp hk]
    rfl
  · rw [if_neg hp, if_neg hp]
theorem hears_at (n f d p r dr o s m fr : Int) (t : List Int) (age : Int) (hage : (Lit.int .i64 age).wf = true) {k : Nat} (hk : 10 < k) : plan_Hears.f k n f d p r dr o s m fr t age = some (hears n f d p r dr o s m fr t age) := by
  have ha := i64_bounds hage
  unfold plan_Hears.f hears
  rw [plain_at n f d p r dr o s m fr t hk]
  simp only [Option.bind_some]
  by_cases hp : plain n f d p r dr o s m fr t = 0
  · have hb := plain_facts hp
    rw [if_pos hp, if_pos hp]
    by_cases h1 : age < d
    · rw [if_pos h1, if_pos h1]
    · rw [if_neg h1, if_neg h1, ConfLib.wrap_small (by omega) (by omega), at_at n f d p r dr o s m fr t _ (WalkArith.wf_i64 (by omega)) hp hk]
      rfl
  · rw [if_neg hp, if_neg hp]
theorem king_at (n f d p r dr o s m fr : Int) (t : List Int) (x : Int) {k : Nat} (hk : 10 < k) : plan_King.f k n f d p r dr o s m fr t x = some (king n f d p r dr o s m fr t x) := by
  have hb := rounds_facts (n := n) (f := f) (d := d) (p := p) (r := r) (dr := dr) (o := o) (s := s) (m := m) (fr := fr) (t := t)
  unfold plan_King.f king
  by_cases h0 : x < 0
  · rw [if_pos h0, if_pos (.inl h0)]
  rw [if_neg h0, rounds_at n f d p r dr o s m fr t hk]
  simp only [Option.bind_some]
  by_cases h1 : x ≥ ConfLib.rounds n f d p r dr o s m fr t
  · rw [if_pos h1, if_pos (.inr h1)]
  · rw [if_neg h1, if_neg (by omega), Int.tdiv_eq_ediv_of_nonneg (by omega), ConfLib.wrap_small (by omega) (by omega)]
end Go.Proofs.Ytofabmdndoaegaa.PlanLib
