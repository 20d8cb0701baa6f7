import Derived.Test.YthblnnboeikgcaaYBeatRegular25
set_option maxHeartbeats 1000000
set_option maxRecDepth 100000
namespace Go.Proofs.Ythblnnboeikgcaa.B
open Go.RowKit Go.Proofs.YthblnnboeikgcaaW.PrintWords Go.Proofs.YthblnnboeikgcaaW.PrintLast Go.Proofs.YthblnnboeikgcaaW.PrintMore
attribute [local go_sem] max2_int min2_int max_two min_two max_three min_three max_four min_four   -- for this text's walks alone
set_option linter.unusedVariables false
set_option linter.unusedSimpArgs false
theorem tally_Count.idx0 (a b c : Int) (w : World) : (Instr.index 161 (.agg #[.int .i64 a, .int .i64 b, .int .i64 c]) (.int .i64 0)).run Try.prog w = .ok (.int .i64 a) w := by kernel_rfl
theorem tally_Count.idx1 (a b c : Int) (w : World) : (Instr.index 161 (.agg #[.int .i64 a, .int .i64 b, .int .i64 c]) (.int .i64 1)).run Try.prog w = .ok (.int .i64 b) w := by kernel_rfl
theorem tally_Count.idx2 (a b c : Int) (w : World) : (Instr.index 161 (.agg #[.int .i64 a, .int .i64 b, .int .i64 c]) (.int .i64 2)).run Try.prog w = .ok (.int .i64 c) w := by kernel_rfl
def tally_Count.f (a0 : Int) (l1 : List Int) : Option (Int) := if a0 < 0 then some 0 else (if a0 ≥ 3 then some 0 else (if l1.length ≤ 1000000 then some (tally_count.cnt a0 l1) else none))
theorem tally_Count.calls (a0 : Int) (A1 : Option Addr) (c1 : Nat) (l1 : List Int) (r : Int) (w : World) (hr1 : Kd.C (Kd.int .i64) w A1 l1.length l1) (hc1 : l1.length ≤ c1) (h : tally_Count.f a0 l1 = some r) :
    Calls Try.prog 150 #[.int .i64 a0, .slice A1 l1.length c1] w fun e w' => e = .returned (.int .i64 r) ∧ Below w.heap.size w w' := by
  have HR := Sd.mk hr1
  have HC := Sd.mk hc1
  clear hr1 hc1
  unfold tally_Count.f at h
  by_cases d1 : a0 < 0
  · rw [if_pos d1] at h
    obtain rfl := Option.some.inj h
    have d1b : decide (a0 < 0) = true := decide_eq_true d1
    go_enter Try.func150, Try.ntmps150
    go_wp2
    go_ret
    exact ⟨rfl, Below.refl _ _⟩
  by_cases d2 : a0 ≥ 3
  · rw [if_neg d1, if_pos d2] at h
    obtain rfl := Option.some.inj h
    have d1b : decide (a0 < 0) = false := decide_eq_false d1
    have d2b : decide (3 ≤ a0) = true := decide_eq_true d2
    go_enter Try.func150, Try.ntmps150
    go_wp2
    go_ret
    exact ⟨rfl, Below.refl _ _⟩
  by_cases d3 : l1.length ≤ 1000000
  · rw [if_neg d1, if_neg d2, if_pos d3] at h
    obtain rfl := Option.some.inj h
    have hv : a0 = 0 ∨ a0 = 1 ∨ a0 = 2 := by omega
    clear d1 d2 h
    have hi0 := tally_Count.idx0 (tally_count.cnt 0 l1) (tally_count.cnt 1 l1) (tally_count.cnt 2 l1)
    have hi1 := tally_Count.idx1 (tally_count.cnt 0 l1) (tally_count.cnt 1 l1) (tally_count.cnt 2 l1)
    have hi2 := tally_Count.idx2 (tally_count.cnt 0 l1) (tally_count.cnt 1 l1) (tally_count.cnt 2 l1)
    go_enter Try.func150, Try.ntmps150
    rcases hv with rfl | rfl | rfl
    all_goals
      go_wp2_with (go_at_call 147; refine (tally_count.calls A1 c1 l1 _ HR.out HC.out d3).mono ?_; rintro e w1 ⟨rfl, hb1⟩)
      go_ret
      exact ⟨rfl, hb1⟩
  · rw [if_neg d1, if_neg d2, if_neg d3] at h
    cases h
end Go.Proofs.Ythblnnboeikgcaa.B
