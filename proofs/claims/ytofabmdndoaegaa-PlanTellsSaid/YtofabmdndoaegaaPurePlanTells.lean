/- Which exchange is told and heard at any age, and whose any is, are the document's. -/
import Derived.Test.YtofabmdndoaegaaSPlanTells
import Derived.Test.YtofabmdndoaegaaPlanLib
import Derived.Test.YtofabmdndoaegaaXx16
set_option linter.unusedVariables false
set_option linter.unusedSimpArgs false
namespace Go.Proofs.Ytofabmdndoaegaa.planTells
open Go.RowKit Go.Proofs.Ytofabmdndoaegaa.X Go.Proofs.YtofabmdndoaegaaW.PrintWords Go.Proofs.Ytofabmdndoaegaa.ConfLib Go.Proofs.Ytofabmdndoaegaa.PlanLib
theorem known : bellwetherlaw15_known.f 2000 = some true := by decide +kernel
theorem rounds_plain {n f d p r dr o s m fr : Int} {t : List Int} (hp : plain n f d p r dr o s m fr t = 0) : ConfLib.rounds n f d p r dr o s m fr t = 3 * (f + 1) := by unfold ConfLib.rounds; rw [if_pos hp]
theorem rounds_not {n f d p r dr o s m fr : Int} {t : List Int} (hp : ¬ plain n f d p r dr o s m fr t = 0) : ConfLib.rounds n f d p r dr o s m fr t = 0 := by unfold ConfLib.rounds; rw [if_neg hp]
theorem tells_loop (n f d p r dr o s m fr : Int) (t : List Int) (age : Int) (hp : plain n f d p r dr o s m fr t = 0) (q : Nat) : ∀ (x : Int) (k : Nat), 0 ≤ x → x + q = 3 * (f + 1) → (∀ y, 0 ≤ y → y < x → age ≠ y * d) → 800 + q < k → bellwetherref15_Tells.l0 k age x n f d p r dr o s m fr t = some (ex d (3 * (f + 1)) age) := by
  have hb := plain_facts hp
  induction q with
  | zero =>
    intro x k h0 hq hy hk
    obtain ⟨k, rfl⟩ : ∃ j, k = j + 1 := ⟨k - 1, by omega⟩
    simp only [bellwetherref15_Tells.l0]
    rw [ref_rounds_at n f d p r dr o s m fr t (by omega), rounds_plain hp]
    simp only [Option.bind_some]
    rw [if_neg (by omega), ex_none (by omega) (fun y h1 h2 => hy y h1 (by omega))]
  | succ q ih =>
    intro x k h0 hq hy hk
    obtain ⟨k, rfl⟩ : ∃ j, k = j + 1 := ⟨k - 1, by omega⟩
    simp only [bellwetherref15_Tells.l0]
    have hm := mul_small (x := x) (d := d) (by omega) h0 (by omega)
    rw [ref_rounds_at n f d p r dr o s m fr t (by omega), rounds_plain hp]
    simp only [Option.bind_some]
    rw [if_pos (by omega), ConfLib.wrap_small (n := x * d) (by omega) (by omega), ConfLib.wrap_small (n := x + 1) (by omega) (by omega)]
    by_cases h : age = x * d
    · rw [if_pos h, ex_eq (by omega) h0 (by omega) h]
    · rw [if_neg h]
      exact ih (x + 1) k (by omega) (by omega) (fun y h1 h2 => by
        by_cases e : y = x
        · rw [e]; exact h
        · exact hy y h1 (by omega)) (by omega)
theorem ref_tells_at (n f d p r dr o s m fr : Int) (t : List Int) (age : Int) {k : Nat} (hk : 1000 < k) : bellwetherref15_Tells.f k n f d p r dr o s m fr t age = some (tells n f d p r dr o s m fr t age) := by
  unfold bellwetherref15_Tells.f tells
  by_cases hp : plain n f d p r dr o s m fr t = 0
  · have hb := plain_facts hp
    rw [if_pos hp]
    exact tells_loop n f d p r dr o s m fr t age hp (3 * (f + 1)).toNat 0 k (by omega) (by omega) (fun y h1 h2 => by omega) (by omega)
  · obtain ⟨k, rfl⟩ : ∃ j, k = j + 1 := ⟨k - 1, by omega⟩
    simp only [bellwetherref15_Tells.l0]
    rw [ref_rounds_at n f d p r dr o s m fr t (by omega), rounds_not hp, if_neg hp]
    rfl
theorem hears_loop (n f d p r dr o s m fr : Int) (t : List Int) (age : Int) (hp : plain n f d p r dr o s m fr t = 0) (q : Nat) : ∀ (x : Int) (k : Nat), 0 ≤ x → x + q = 3 * (f + 1) → (∀ y, 0 ≤ y → y < x → age ≠ (y + 1) * d) → 800 + q < k → bellwetherref15_Hears.l0 k age x n f d p r dr o s m fr t = some (if age < d then -1 else ex d (3 * (f + 1)) (age - d)) := by
  have hb := plain_facts hp
  have hd : d = 1 ∨ d = 2 ∨ d = 3 ∨ d = 4 := by omega
  induction q with
  | zero =>
    intro x k h0 hq hy hk
    obtain ⟨k, rfl⟩ : ∃ j, k = j + 1 := ⟨k - 1, by omega⟩
    simp only [bellwetherref15_Hears.l0]
    rw [ref_rounds_at n f d p r dr o s m fr t (by omega), rounds_plain hp]
    simp only [Option.bind_some]
    rw [if_neg (by omega)]
    by_cases h : age < d
    · rw [if_pos h]
    · rw [if_neg h, ex_none (by omega) (fun y h1 h2 h3 => hy y h1 (by omega) (by rcases hd with rfl | rfl | rfl | rfl <;> omega))]
  | succ q ih =>
    intro x k h0 hq hy hk
    obtain ⟨k, rfl⟩ : ∃ j, k = j + 1 := ⟨k - 1, by omega⟩
    simp only [bellwetherref15_Hears.l0]
    have hm := mul_small (x := x + 1) (d := d) (by omega) (by omega) (by omega)
    rw [ref_rounds_at n f d p r dr o s m fr t (by omega), rounds_plain hp]
    simp only [Option.bind_some]
    rw [if_pos (by omega), ConfLib.wrap_small (n := x + 1) (by omega) (by omega), ConfLib.wrap_small (n := (x + 1) * d) (by omega) (by omega)]
    by_cases h : age = (x + 1) * d
    · have hlt : ¬ age < d := by rcases hd with rfl | rfl | rfl | rfl <;> omega
      rw [if_pos h, if_neg hlt, ex_eq (by omega) h0 (by omega) (by rcases hd with rfl | rfl | rfl | rfl <;> omega)]
    · rw [if_neg h]
      exact ih (x + 1) k (by omega) (by omega) (fun y h1 h2 => by
        by_cases e : y = x
        · rw [e]; exact h
        · exact hy y h1 (by omega)) (by omega)
theorem ref_hears_at (n f d p r dr o s m fr : Int) (t : List Int) (age : Int) {k : Nat} (hk : 1000 < k) : bellwetherref15_Hears.f k n f d p r dr o s m fr t age = some (hears n f d p r dr o s m fr t age) := by
  unfold bellwetherref15_Hears.f hears
  by_cases hp : plain n f d p r dr o s m fr t = 0
  · have hb := plain_facts hp
    rw [if_pos hp]
    exact hears_loop n f d p r dr o s m fr t age hp (3 * (f + 1)).toNat 0 k (by omega) (by omega) (fun y h1 h2 => by omega) (by omega)
  · obtain ⟨k, rfl⟩ : ∃ j, k = j + 1 := ⟨k - 1, by omega⟩
    simp only [bellwetherref15_Hears.l0]
    rw [ref_rounds_at n f d p r dr o s m fr t (by omega), rounds_not hp, if_neg hp]
    rfl
theorem ref_king_at (n f d p r dr o s m fr : Int) (t : List Int) (x : Int) {k : Nat} (hk : 1000 < k) : bellwetherref15_King.f k n f d p r dr o s m fr t x = some (king n f d p r dr o s m fr t x) := by
  have hb := rounds_facts (n := n) (f := f) (d := d) (p := p) (r := r) (dr := dr) (o := o) (s := s) (m := m) (fr := fr) (t := t)
  unfold bellwetherref15_King.f king
  by_cases h0 : x < 0
  · rw [if_pos h0, if_pos (.inl h0)]
  rw [if_neg h0, ref_rounds_at n f d p r dr o s m fr t (by omega)]
  simp only [Option.bind_some]
  by_cases h1 : x ≥ ConfLib.rounds n f d p r dr o s m fr t
  · rw [if_pos h1, if_pos (.inr h1)]
  · rw [if_neg h1, if_neg (by omega), Int.tdiv_eq_ediv_of_nonneg (by omega), ConfLib.wrap_small (by omega) (by omega)]
theorem pure : Pure := by
  rintro ⟨n, f, d, p, r, dr, o, s, m, fr, t⟩ age x _ hage _
  refine ⟨2000, ?_⟩
  unfold bellwetherlaw15_PlanTells.f
  simp only [tells_at n f d p r dr o s m fr t age hage (show 10 < 2000 by decide), hears_at n f d p r dr o s m fr t age hage (show 10 < 2000 by decide), king_at n f d p r dr o s m fr t x (show 10 < 2000 by decide), ref_tells_at n f d p r dr o s m fr t age (show 1000 < 2000 by decide), ref_hears_at n f d p r dr o s m fr t age (show 1000 < 2000 by decide), ref_king_at n f d p r dr o s m fr t x (show 1000 < 2000 by decide), known, Option.bind_some, if_true]
end Go.Proofs.Ytofabmdndoaegaa.planTells
