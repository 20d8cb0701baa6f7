import Derived.Test.YtfdkmeokfmgfhaaYPortLast12
set_option maxHeartbeats 1000000
namespace Go.Proofs.Ytfdkmeokfmgfhaa.X
open Go.RowKit Go.Proofs.YtfdkmeokfmgfhaaW.PrintWords Go.Proofs.YtfdkmeokfmgfhaaW.PrintLast Go.Proofs.YtfdkmeokfmgfhaaW.PrintMore
attribute [local go_sem] max2_int min2_int max_two min_two max_three min_three max_four min_four   -- for this text's walks alone
set_option linter.unusedVariables false
set_option linter.unusedSimpArgs false
theorem port_one_fresh.calls (g o : Nat) (a m : Int) (q : Bool) (hq : (decide (0 ≤ a) && decide (a < m)) = q) (w : World) (h : w.cell? ⟨g, o + 2, none⟩ = some (.int .i64 a)) :
    Calls Try.prog 42 #[.pointer (some ⟨g, o, none⟩), .int .i64 m] w fun e w' => e = .returned (.bool q) ∧ Below w.heap.size w w' := by
  subst hq
  by_cases c : 0 ≤ a
  · have cb : decide (0 ≤ a) = true := decide_eq_true c
    go_enter Try.func42, Try.ntmps42
    go_wp2
    go_ret
    exact ⟨by first | rfl | (rw [cb]; rfl), Below.refl _ _⟩
  · have cb : decide (0 ≤ a) = false := decide_eq_false c
    go_enter Try.func42, Try.ntmps42
    go_wp2
    go_ret
    exact ⟨by first | rfl | (rw [cb]; rfl), Below.refl _ _⟩
end Go.Proofs.Ytfdkmeokfmgfhaa.X
