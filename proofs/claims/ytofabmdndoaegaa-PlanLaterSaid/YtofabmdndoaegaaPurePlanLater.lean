/- What is told is heard D ticks later, and all is heard when an instance is done. -/
import Derived.Test.YtofabmdndoaegaaSPlanLater
import Derived.Test.YtofabmdndoaegaaPlanLib
import Derived.Test.YtofabmdndoaegaaXx16
set_option linter.unusedVariables false
set_option linter.unusedSimpArgs false
namespace Go.Proofs.Ytofabmdndoaegaa.planLater
open Go.RowKit Go.Proofs.Ytofabmdndoaegaa.X Go.Proofs.YtofabmdndoaegaaW.PrintWords Go.Proofs.Ytofabmdndoaegaa.ConfLib Go.Proofs.Ytofabmdndoaegaa.PlanLib
theorem known_1000 : bellwetherlaw15_known.f 1000 = some true := by decide +kernel
theorem known {k : Nat} (hk : 1000 ≤ k) : bellwetherlaw15_known.f k = some true := by
  obtain ⟨j, rfl⟩ : ∃ j, k = 1000 + j := ⟨k - 1000, by omega⟩
  induction j with
  | zero => exact known_1000
  | succ j ih => exact bellwetherlaw15_known.mono _ _ (ih (by omega))
theorem none_tells {k : Nat} (hk : 10 < k) (age : Int) (h : (Lit.int .i64 age).wf = true) : plan_Tells.f k 0 0 0 0 0 0 0 0 0 0 ([] : List Int) age = some (-1) := by
  rw [tells_at 0 0 0 0 0 0 0 0 0 0 [] age h hk]
  have : ¬ plain 0 0 0 0 0 0 0 0 0 0 [] = 0 := by
    intro h
    have := plain_facts h
    omega
  unfold tells
  rw [if_neg this]
theorem pure : Pure := by
  rintro ⟨n, f, d, p, r, dr, o, s, m, fr, t⟩ age _ hage
  refine ⟨2000, ?_⟩
  have ht : ∀ k, 1001 ≤ k → bellwetherlaw15_PlanLater.j0 k age true n f d p r dr o s m fr t = some true := by
    intro k hk
    obtain ⟨k, rfl⟩ : ∃ j, k = j + 1 := ⟨k - 1, by omega⟩
    simp only [bellwetherlaw15_PlanLater.j0]
    rw [if_pos trivial, none_tells (by omega) age hage]
    simp only [Option.bind_some]
    rw [if_pos trivial, known (by omega)]
    rfl
  unfold bellwetherlaw15_PlanLater.f
  rw [ref_plain_at n f d p r dr o s m fr t (by omega)]
  simp only [Option.bind_some]
  by_cases hp : plain n f d p r dr o s m fr t = 0
  · rw [if_pos hp]
    by_cases h1 : age < -100
    · rw [if_pos h1]
      exact ht _ (by omega)
    · rw [if_neg h1]
      by_cases h2 : age > 100
      · rw [decide_eq_true h2]
        exact ht _ (by omega)
      · rw [decide_eq_false h2]
        have hb := plain_facts hp
        have hm := mul_d (f := f) (d := d) (by omega) (by omega)
        have hd : d = 1 ∨ d = 2 ∨ d = 3 ∨ d = 4 := by omega
        have e1 : ConfLib.length n f d p r dr o s m fr t = 3 * (f + 1) * d := by unfold ConfLib.length; rw [if_pos hp]
        have e2 : ConfLib.rounds n f d p r dr o s m fr t = 3 * (f + 1) := by unfold ConfLib.rounds; rw [if_pos hp]
        have hc := ex_cases (d := d) (r := 3 * (f + 1)) (t := age) (by omega)
        have hlt : ¬ tells n f d p r dr o s m fr t age ≥ 3 * (f + 1) := by
          unfold tells
          rw [if_pos hp]
          rcases hc with ⟨h, _⟩ | ⟨x, _, h, _, h'⟩ <;> omega
        have hh : hears n f d p r dr o s m fr t (age + d) = tells n f d p r dr o s m fr t age := by
          unfold tells hears
          rw [if_pos hp, if_pos hp, show age + d - d = age by omega]
          by_cases h3 : age + d < d
          · rw [if_pos h3]
            unfold ex
            rw [if_pos (.inl (by omega))]
          · rw [if_neg h3]
        have hl : hears n f d p r dr o s m fr t (3 * (f + 1) * d) = 3 * (f + 1) - 1 := by
          unfold hears
          rw [if_pos hp, if_neg (by rcases hd with rfl | rfl | rfl | rfl <;> omega)]
          exact ex_eq (by omega) (by omega) (by omega) (by rcases hd with rfl | rfl | rfl | rfl <;> omega)
        have ha : ¬ age ≤ 3 * (f + 1) * d → hears n f d p r dr o s m fr t age = -1 := by
          intro h
          unfold hears
          rw [if_pos hp]
          split
          · rfl
          · exact ex_none (by omega) (fun x h1 h2 h3 => by rcases hd with rfl | rfl | rfl | rfl <;> omega)
        simp only [bellwetherlaw15_PlanLater.j0, bellwetherlaw15_PlanLater.j1]
        rw [if_neg (by decide), tells_at n f d p r dr o s m fr t age hage (by omega), ConfLib.wrap_small (n := age + d) (by omega) (by omega), hears_at n f d p r dr o s m fr t (age + d) (WalkArith.wf_i64 (by omega)) (by omega), hh, ref_rounds_at n f d p r dr o s m fr t (by omega), ref_rounds_at n f d p r dr o s m fr t (by omega), e2, ref_length_at n f d p r dr o s m fr t (by omega), e1]
        simp only [Option.bind_some]
        rw [if_pos trivial, decide_eq_false hlt, if_neg (by decide), hears_at n f d p r dr o s m fr t (3 * (f + 1) * d) (WalkArith.wf_i64 (by omega)) (by omega), hl, ConfLib.wrap_small (n := 3 * (f + 1) - 1) (by omega) (by omega), known (by omega), hears_at n f d p r dr o s m fr t age hage (by omega)]
        simp only [Option.bind_some]
        rw [if_pos trivial]
        by_cases h4 : age ≤ 3 * (f + 1) * d
        · rw [if_pos h4]
        · rw [if_neg h4, ha h4, if_pos rfl]
  · rw [if_neg hp]
    exact ht _ (by omega)
end Go.Proofs.Ytofabmdndoaegaa.planLater
