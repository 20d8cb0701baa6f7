/- Each exchange is heard just once, and each phase has its own king. -/
import Derived.Test.YtofabmdndoaegaaSPlanKings
import Derived.Test.YtofabmdndoaegaaPlanLib
import Derived.Test.YtofabmdndoaegaaXx16
set_option linter.unusedVariables false
set_option linter.unusedSimpArgs false
namespace Go.Proofs.Ytofabmdndoaegaa.planKings
open Go.RowKit Go.Proofs.Ytofabmdndoaegaa.X Go.Proofs.YtofabmdndoaegaaW.PrintWords Go.Proofs.Ytofabmdndoaegaa.ConfLib Go.Proofs.Ytofabmdndoaegaa.PlanLib
theorem known_1000 : bellwetherlaw15_known.f 1000 = some true := by decide +kernel
theorem known {k : Nat} (hk : 1000 ≤ k) : bellwetherlaw15_known.f k = some true := by
  obtain ⟨j, rfl⟩ : ∃ j, k = 1000 + j := ⟨k - 1000, by omega⟩
  induction j with
  | zero => exact known_1000
  | succ j ih => exact bellwetherlaw15_known.mono _ _ (ih (by omega))
section
variable (n f d p r dr o s m fr : Int) (t : List Int)
theorem king_eq (hp : plain n f d p r dr o s m fr t = 0) (y : Int) (h0 : 0 ≤ y) (h1 : y < 3 * (f + 1)) : king n f d p r dr o s m fr t y = y / 3 := by
  unfold king ConfLib.rounds
  rw [if_pos hp, if_neg (by omega)]
theorem hears_iff (hp : plain n f d p r dr o s m fr t = 0) (x age : Int) (h0 : 0 ≤ x) (h1 : x < 3 * (f + 1)) : hears n f d p r dr o s m fr t age = x ↔ age = (x + 1) * d := by
  have hb := plain_facts hp
  have hd : d = 1 ∨ d = 2 ∨ d = 3 ∨ d = 4 := by omega
  unfold hears
  rw [if_pos hp]
  by_cases h : age < d
  · rw [if_pos h]
    rcases hd with rfl | rfl | rfl | rfl <;> omega
  · rw [if_neg h]
    rcases ex_cases (d := d) (r := 3 * (f + 1)) (t := age - d) (by omega) with ⟨e, hn⟩ | ⟨y, a, b, c, e⟩
    · rw [e]
      refine ⟨fun hx => by omega, fun hx => absurd ?_ (hn x h0 h1)⟩
      rcases hd with rfl | rfl | rfl | rfl <;> omega
    · rw [e]
      rcases hd with rfl | rfl | rfl | rfl <;> omega
theorem pairs (hp : plain n f d p r dr o s m fr t = 0) (x : Int) (h1 : x < 3 * (f + 1)) (b : Nat) (hl : ∀ k, b < k → bellwetherlaw15_PlanKings.l0 k (x + 1) n f d p r dr o s m fr t = some true) (q : Nat) : ∀ (y : Int) (k : Nat), 0 ≤ y → y + q = x → b + q + 30 < k → bellwetherlaw15_PlanKings.l2 k x (x / 3) y n f d p r dr o s m fr t = some true := by
  have hb := plain_facts hp
  induction q with
  | zero =>
    intro y k h0 hq hk
    obtain ⟨k, rfl⟩ : ∃ j, k = j + 1 := ⟨k - 1, by omega⟩
    simp only [bellwetherlaw15_PlanKings.l2]
    rw [if_neg (by omega), ConfLib.wrap_small (by omega) (by omega)]
    exact hl _ (by omega)
  | succ q ih =>
    intro y k h0 hq hk
    obtain ⟨k, rfl⟩ : ∃ j, k = j + 1 := ⟨k - 1, by omega⟩
    simp only [bellwetherlaw15_PlanKings.l2]
    rw [if_pos (by omega), king_at n f d p r dr o s m fr t y (by omega), king_eq n f d p r dr o s m fr t hp y h0 (by omega), Int.tdiv_eq_ediv_of_nonneg (by omega), Int.tdiv_eq_ediv_of_nonneg (by omega), ConfLib.wrap_small (n := y / 3) (by omega) (by omega), ConfLib.wrap_small (n := x / 3) (by omega) (by omega), ConfLib.wrap_small (n := y + 1) (by omega) (by omega)]
    simp only [Option.bind_some, bne_self_eq_false]
    exact ih (y + 1) k (by omega) (by omega) (by omega)
theorem count (hp : plain n f d p r dr o s m fr t = 0) (x : Int) (h0 : 0 ≤ x) (h1 : x < 3 * (f + 1)) (b : Nat) (hbb : 700 < b) (hl : ∀ k, b < k → bellwetherlaw15_PlanKings.l0 k (x + 1) n f d p r dr o s m fr t = some true) (q : Nat) : ∀ (c age : Int) (k : Nat), 0 ≤ age → age + q = 3 * (f + 1) * d + 1 → c = (if age ≤ (x + 1) * d then 0 else 1) → b + q + 50 < k → bellwetherlaw15_PlanKings.l1 k x c age n f d p r dr o s m fr t = some true := by
  have hb := plain_facts hp
  have hm := mul_d (f := f) (d := d) (by omega) (by omega)
  have hd : d = 1 ∨ d = 2 ∨ d = 3 ∨ d = 4 := by omega
  have e1 : ConfLib.length n f d p r dr o s m fr t = 3 * (f + 1) * d := by unfold ConfLib.length; rw [if_pos hp]
  induction q with
  | zero =>
    intro c age k ha hq hc hk
    obtain ⟨k, rfl⟩ : ∃ j, k = j + 2 := ⟨k - 2, by omega⟩
    rw [if_neg (by rcases hd with rfl | rfl | rfl | rfl <;> omega)] at hc
    rw [show k + 2 = (k + 1) + 1 from rfl]
    simp only [bellwetherlaw15_PlanKings.l1]
    rw [ref_length_at n f d p r dr o s m fr t (by omega), e1]
    simp only [Option.bind_some]
    rw [if_neg (by omega), king_at n f d p r dr o s m fr t x (by omega), king_eq n f d p r dr o s m fr t hp x h0 h1]
    simp only [Option.bind_some]
    rw [if_pos hc, if_neg (by omega), decide_eq_false (by omega)]
    simp only [bellwetherlaw15_PlanKings.j2]
    rw [if_neg (by decide)]
    exact pairs n f d p r dr o s m fr t hp x h1 b hl x.toNat 0 k (by omega) (by omega) (by omega)
  | succ q ih =>
    intro c age k ha hq hc hk
    obtain ⟨k, rfl⟩ : ∃ j, k = j + 1 := ⟨k - 1, by omega⟩
    simp only [bellwetherlaw15_PlanKings.l1]
    rw [ref_length_at n f d p r dr o s m fr t (by omega), e1]
    simp only [Option.bind_some]
    rw [if_pos (by omega), hears_at n f d p r dr o s m fr t age (WalkArith.wf_i64 (by omega)) (by omega), ConfLib.wrap_small (n := age + 1) (by omega) (by omega)]
    simp only [Option.bind_some]
    by_cases h : age = (x + 1) * d
    · rw [if_pos ((hears_iff n f d p r dr o s m fr t hp x age h0 h1).2 h)]
      rw [if_pos (by omega)] at hc
      rw [hc]
      exact ih _ (age + 1) k (by omega) (by omega) (by rw [if_neg (by omega), ConfLib.wrap_small (by omega) (by omega)]; rfl) (by omega)
    · rw [if_neg (fun e => h ((hears_iff n f d p r dr o s m fr t hp x age h0 h1).1 e))]
      refine ih _ (age + 1) k (by omega) (by omega) ?_ (by omega)
      rw [hc]
      by_cases h2 : age ≤ (x + 1) * d
      · rw [if_pos h2, if_pos (by omega)]
      · rw [if_neg h2, if_neg (by omega)]
theorem all (hp : plain n f d p r dr o s m fr t = 0) (q : Nat) : ∀ (x : Int) (k : Nat), 0 ≤ x → x + q = 3 * (f + 1) → 1100 + 200 * q < k → bellwetherlaw15_PlanKings.l0 k x n f d p r dr o s m fr t = some true := by
  have hb := plain_facts hp
  have hm := mul_d (f := f) (d := d) (by omega) (by omega)
  have e2 : ConfLib.rounds n f d p r dr o s m fr t = 3 * (f + 1) := by unfold ConfLib.rounds; rw [if_pos hp]
  have hd : d = 1 ∨ d = 2 ∨ d = 3 ∨ d = 4 := by omega
  induction q with
  | zero =>
    intro x k h0 hq hk
    obtain ⟨k, rfl⟩ : ∃ j, k = j + 1 := ⟨k - 1, by omega⟩
    simp only [bellwetherlaw15_PlanKings.l0]
    rw [ref_rounds_at n f d p r dr o s m fr t (by omega), e2]
    simp only [Option.bind_some]
    rw [if_neg (by omega), known (by omega)]
    rfl
  | succ q ih =>
    intro x k h0 hq hk
    obtain ⟨k, rfl⟩ : ∃ j, k = j + 1 := ⟨k - 1, by omega⟩
    simp only [bellwetherlaw15_PlanKings.l0]
    rw [ref_rounds_at n f d p r dr o s m fr t (by omega), e2]
    simp only [Option.bind_some]
    rw [if_pos (by omega)]
    exact count n f d p r dr o s m fr t hp x h0 (by omega) (1100 + 200 * q) (by omega) (fun k hk => ih (x + 1) k (by omega) (by omega) hk) (3 * (f + 1) * d + 1).toNat 0 0 k (by omega) (by omega) (by rw [if_pos (by rcases hd with rfl | rfl | rfl | rfl <;> omega)]) (by omega)
end
theorem pure : Pure := by
  rintro ⟨n, f, d, p, r, dr, o, s, m, fr, t⟩ _
  refine ⟨6000, ?_⟩
  unfold bellwetherlaw15_PlanKings.f
  rw [ref_plain_at n f d p r dr o s m fr t (by omega)]
  simp only [Option.bind_some]
  by_cases hp : plain n f d p r dr o s m fr t = 0
  · have hb := plain_facts hp
    rw [if_pos hp]
    exact all n f d p r dr o s m fr t hp (3 * (f + 1)).toNat 0 6000 (by omega) (by omega) (by omega)
  · rw [if_neg hp, king_at n f d p r dr o s m fr t 0 (by omega)]
    simp only [Option.bind_some]
    have : king n f d p r dr o s m fr t 0 = -1 := by
      unfold king ConfLib.rounds
      rw [if_neg hp, if_pos (by omega)]
    rw [if_pos this, known (by omega)]
    rfl
end Go.Proofs.Ytofabmdndoaegaa.planKings
