import Derived.Test.YthblnnboeikgcaaYAgreeTogether22
import Derived.Test.YthblnnboeikgcaaYAgreeTogether23
import Derived.Test.YthblnnboeikgcaaYAgreeTogether25
set_option maxHeartbeats 1000000
set_option maxRecDepth 100000
section
namespace Go.Proofs.Ythblnnboeikgcaa.X
open Go.RowKit Go.Proofs.YthblnnboeikgcaaW.PrintWords Go.Proofs.YthblnnboeikgcaaW.PrintLast Go.Proofs.YthblnnboeikgcaaW.PrintMore
attribute [local go_sem] max2_int min2_int max_two min_two max_three min_three max_four min_four   -- for this text's walks alone
set_option linter.unusedVariables false
set_option linter.unusedSimpArgs false
def tally_Least.f (k : Nat) (a0_0 : Int) (a0_1 : Int) (a0_2 : Int) (a0_3 : Int) (a0_4 : Int) (a0_5 : Int) (a0_6 : Int) (a0_7 : Int) (a0_8 : Int) (a0_9 : Int) (l0_10 : List Int) (a1 : Int) (l2 : List Int) : Option (Int) := (tally_Some.f k a0_0 a0_1 a0_2 a0_3 a0_4 a0_5 a0_6 a0_7 a0_8 a0_9 l0_10).bind fun q => if q = 0 then some a1 else if l2.length ≤ 1000000 then some (tally_counted_first.of (tally_count.cnt 0 l2) (tally_count.cnt 1 l2) (tally_count.cnt 2 l2) q a1 ([0, 1, 2] : List Int)) else none
theorem tally_Least.mono : ∀ a0 a1 a2 a3 a4 a5 a6 a7 a8 a9 a10 a11 a12 k, LeO (tally_Least.f k a0 a1 a2 a3 a4 a5 a6 a7 a8 a9 a10 a11 a12) (tally_Least.f (k + 1) a0 a1 a2 a3 a4 a5 a6 a7 a8 a9 a10 a11 a12) := by
  intro a0 a1 a2 a3 a4 a5 a6 a7 a8 a9 a10 a11 a12 k
  unfold tally_Least.f
  exact LeO.bind (tally_Some.mono _ _ _ _ _ _ _ _ _ _ _ _) (fun _ => LeO.refl _)
theorem tally_Least.calls (k : Nat) (a0_0 : Int) (a0_1 : Int) (a0_2 : Int) (a0_3 : Int) (a0_4 : Int) (a0_5 : Int) (a0_6 : Int) (a0_7 : Int) (a0_8 : Int) (a0_9 : Int) (A0_10 : Option Addr) (c0_10 : Nat) (l0_10 : List Int) (a1 : Int) (A2 : Option Addr) (c2 : Nat) (l2 : List Int) (r : Int) (w : World) (hr0_10 : Kd.C (Kd.int .i64) w A0_10 l0_10.length l0_10) (hc0_10 : l0_10.length ≤ c0_10) (hr2 : Kd.C (Kd.int .i64) w A2 l2.length l2) (hc2 : l2.length ≤ c2) (h : tally_Least.f k a0_0 a0_1 a0_2 a0_3 a0_4 a0_5 a0_6 a0_7 a0_8 a0_9 l0_10 a1 l2 = some r) :
    Calls Try.prog 138 #[.agg #[.int .i64 a0_0, .int .i64 a0_1, .int .i64 a0_2, .int .i64 a0_3, .int .i64 a0_4, .int .i64 a0_5, .int .i64 a0_6, .int .i64 a0_7, .int .i64 a0_8, .int .i64 a0_9, .slice A0_10 l0_10.length c0_10], .int .i64 a1, .slice A2 l2.length c2] w fun e w' => e = .returned (.int .i64 r) ∧ Below w.heap.size w w' := by
  have hu24 := Try.underlying24
  have HR0 := Sd.mk hr0_10
  have HC0 := Sd.mk hc0_10
  have HR1 := Sd.mk hr2
  have HC1 := Sd.mk hc2
  clear hr0_10 hc0_10 hr2 hc2
  unfold tally_Least.f at h
  obtain ⟨q, hq, h⟩ := Option.bind_eq_some_iff.mp h
  have HQ := Sd.mk hq
  clear hq
  by_cases c1 : q = 0
  · rw [if_pos c1] at h
    obtain rfl := Option.some.inj h
    have c1b : (q == 0) = true := beq_iff_eq.mpr c1
    clear c1 h
    go_enter Try.func138, Try.ntmps138
    go_wp2_with (go_at_call 149; refine (tally_Some.calls k _ _ _ _ _ _ _ _ _ _ _ _ _ q _ (Kd.C_alloc HR0.out _) HC0.out HQ.out).mono ?_; rintro e w1 ⟨rfl, hb1⟩)
    go_ret
    exact ⟨rfl, below_then (below_alloc (Below.refl _ w) _) (by simp) hb1⟩
  rw [if_neg c1] at h
  by_cases d3 : l2.length ≤ 1000000
  · rw [if_pos d3] at h
    obtain rfl := Option.some.inj h
    have c1b : (q == 0) = false := beq_eq_false_iff_ne.mpr c1
    clear c1 h
    go_enter Try.func138, Try.ntmps138
    go_wp2_with (first
      | (go_at_call 149; refine (tally_Some.calls k _ _ _ _ _ _ _ _ _ _ _ _ _ q _ (Kd.C_alloc HR0.out _) HC0.out HQ.out).mono ?_; rintro e w1 ⟨rfl, hb1⟩; have HB1 := Sd.mk (below_then (below_alloc (Below.refl _ w) _) (by simp) hb1); clear hb1)
      | (go_at_call 147; refine (tally_count.calls _ _ l2 _ (Kd.C_below HR1.out HB1.out) HC1.out d3).mono ?_; rintro e w2 ⟨rfl, hb2⟩; have HB2 := Sd.mk (below_then HB1.out HB1.out.size hb2); clear hb2)
      | ((with_reducible refine gate_dst (N := 17) rfl ?_); refine Kd.R_lit (Kd.int .i64) _ 3 ?hg (N := 17) ?hd (xs := ([0, 1, 2] : List Int)) (inner := [.int .i64 0, .int .i64 1, .int .i64 2]) (ok := fun _ => True) (okp := fun _ => True) ?hr ?hp (fun _ hk => hk) trivial (Below.refl _ _) (Nat.le_refl _) (by simp) ?_; (case hd => rfl); (case hg => rfl); (case hr => first | (go_simp; done) | (go_simp; rfl)); (case hp => exact (Reps.one (show Kd.M (Kd.int .i64) _ _ _ 0 [.int .i64 0] from rfl) (Reps.one (show Kd.M (Kd.int .i64) _ _ _ 1 [.int .i64 1] from rfl) (Reps.one (show Kd.M (Kd.int .i64) _ _ _ 2 [.int .i64 2] from rfl) (Reps.none _ _))))); intro v1 w3 ho hb hg_ hnew_; clear hg_ hnew_; obtain ⟨Ao, co, rfl, hcc, hcr⟩ := Kd.R_reads ho; have HB3 := Sd.mk (below_then HB2.out HB2.out.size hb); have HCR := Sd.mk hcr; have HCC := Sd.mk hcc; clear ho hb hcr hcc)
      | (go_at_call 148; refine (tally_counted_first.calls _ _ _ _ _ Ao co ([0, 1, 2] : List Int) _ HCR.out HCC.out (by simp) (by intro x h0 h1; have h2 : x < 3 := (by simpa using h1); have h3 : x = 0 ∨ x = 1 ∨ x = 2 := (by omega); rcases h3 with rfl | rfl | rfl <;> simp [rd])).mono ?_; rintro e w4 ⟨rfl, hb4⟩; have HB4 := Sd.mk (below_then HB3.out HB3.out.size hb4); clear hb4))
    go_ret
    exact ⟨rfl, HB4.out⟩
  · rw [if_neg d3] at h
    cases h
end Go.Proofs.Ythblnnboeikgcaa.X
end
section
namespace Go.Proofs.Ythblnnboeikgcaa.X
open Go.RowKit Go.Proofs.YthblnnboeikgcaaW.PrintWords Go.Proofs.YthblnnboeikgcaaW.PrintLast Go.Proofs.YthblnnboeikgcaaW.PrintMore
attribute [local go_sem] max2_int min2_int max_two min_two max_three min_three max_four min_four   -- for this text's walks alone
set_option linter.unusedVariables false
set_option linter.unusedSimpArgs false
theorem tally_Count.idx0 (a b c : Int) (w : World) : (Instr.index 161 (.agg #[.int .i64 a, .int .i64 b, .int .i64 c]) (.int .i64 0)).run Try.prog w = .ok (.int .i64 a) w := by kernel_rfl
theorem tally_Count.idx1 (a b c : Int) (w : World) : (Instr.index 161 (.agg #[.int .i64 a, .int .i64 b, .int .i64 c]) (.int .i64 1)).run Try.prog w = .ok (.int .i64 b) w := by kernel_rfl
theorem tally_Count.idx2 (a b c : Int) (w : World) : (Instr.index 161 (.agg #[.int .i64 a, .int .i64 b, .int .i64 c]) (.int .i64 2)).run Try.prog w = .ok (.int .i64 c) w := by kernel_rfl
def tally_Count.f (a0 : Int) (l1 : List Int) : Option (Int) := if a0 < 0 then some 0 else (if a0 ≥ 3 then some 0 else (if l1.length ≤ 1000000 then some (tally_count.cnt a0 l1) else none))
theorem tally_Count.calls (a0 : Int) (A1 : Option Addr) (c1 : Nat) (l1 : List Int) (r : Int) (w : World) (hr1 : Kd.C (Kd.int .i64) w A1 l1.length l1) (hc1 : l1.length ≤ c1) (h : tally_Count.f a0 l1 = some r) :
    Calls Try.prog 150 #[.int .i64 a0, .slice A1 l1.length c1] w fun e w' => e = .returned (.int .i64 r) ∧ Below w.heap.size w w' := by
  have HR := Sd.mk hr1
  have HC := Sd.mk hc1
  clear hr1 hc1
  unfold tally_Count.f at h
  by_cases d1 : a0 < 0
  · rw [if_pos d1] at h
    obtain rfl := Option.some.inj h
    have d1b : decide (a0 < 0) = true := decide_eq_true d1
    go_enter Try.func150, Try.ntmps150
    go_wp2
    go_ret
    exact ⟨rfl, Below.refl _ _⟩
  by_cases d2 : a0 ≥ 3
  · rw [if_neg d1, if_pos d2] at h
    obtain rfl := Option.some.inj h
    have d1b : decide (a0 < 0) = false := decide_eq_false d1
    have d2b : decide (3 ≤ a0) = true := decide_eq_true d2
    go_enter Try.func150, Try.ntmps150
    go_wp2
    go_ret
    exact ⟨rfl, Below.refl _ _⟩
  by_cases d3 : l1.length ≤ 1000000
  · rw [if_neg d1, if_neg d2, if_pos d3] at h
    obtain rfl := Option.some.inj h
    have hv : a0 = 0 ∨ a0 = 1 ∨ a0 = 2 := by omega
    clear d1 d2 h
    have hi0 := tally_Count.idx0 (tally_count.cnt 0 l1) (tally_count.cnt 1 l1) (tally_count.cnt 2 l1)
    have hi1 := tally_Count.idx1 (tally_count.cnt 0 l1) (tally_count.cnt 1 l1) (tally_count.cnt 2 l1)
    have hi2 := tally_Count.idx2 (tally_count.cnt 0 l1) (tally_count.cnt 1 l1) (tally_count.cnt 2 l1)
    go_enter Try.func150, Try.ntmps150
    rcases hv with rfl | rfl | rfl
    all_goals
      go_wp2_with (go_at_call 147; refine (tally_count.calls A1 c1 l1 _ HR.out HC.out d3).mono ?_; rintro e w1 ⟨rfl, hb1⟩)
      go_ret
      exact ⟨rfl, hb1⟩
  · rw [if_neg d1, if_neg d2, if_neg d3] at h
    cases h
end Go.Proofs.Ythblnnboeikgcaa.X
end
