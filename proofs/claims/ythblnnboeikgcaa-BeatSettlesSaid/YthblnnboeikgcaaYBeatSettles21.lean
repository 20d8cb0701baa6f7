import Derived.Test.YthblnnboeikgcaaYBeatSettles19
import Derived.Test.YthblnnboeikgcaaYBeatSettles18
import Derived.Test.YthblnnboeikgcaaYBeatSettles20
set_option maxHeartbeats 1000000
section
namespace Go.Proofs.Ythblnnboeikgcaa.B
open Go.RowKit Go.Proofs.YthblnnboeikgcaaW.PrintWords Go.Proofs.YthblnnboeikgcaaW.PrintLast Go.Proofs.YthblnnboeikgcaaW.PrintMore
attribute [local go_sem] max2_int min2_int max_two min_two max_three min_three max_four min_four   -- for this text's walks alone
set_option linter.unusedVariables false
set_option linter.unusedSimpArgs false
def tally_Most.f (k : Nat) (a0_0 : Int) (a0_1 : Int) (a0_2 : Int) (a0_3 : Int) (a0_4 : Int) (a0_5 : Int) (a0_6 : Int) (a0_7 : Int) (a0_8 : Int) (a0_9 : Int) (l0_10 : List Int) (l1 : List Int) : Option (Int) := (tally_Quorum.f k a0_0 a0_1 a0_2 a0_3 a0_4 a0_5 a0_6 a0_7 a0_8 a0_9 l0_10).bind fun q => if q = 0 then some 2 else if l1.length ≤ 1000000 then some (tally_counted_first.of (tally_count.cnt 0 l1) (tally_count.cnt 1 l1) (tally_count.cnt 2 l1) q 2 ([1, 0] : List Int)) else none
theorem tally_Most.mono : ∀ a0 a1 a2 a3 a4 a5 a6 a7 a8 a9 a10 a11 k, LeO (tally_Most.f k a0 a1 a2 a3 a4 a5 a6 a7 a8 a9 a10 a11) (tally_Most.f (k + 1) a0 a1 a2 a3 a4 a5 a6 a7 a8 a9 a10 a11) := by
  intro a0 a1 a2 a3 a4 a5 a6 a7 a8 a9 a10 a11 k
  unfold tally_Most.f
  exact LeO.bind (tally_Quorum.mono _ _ _ _ _ _ _ _ _ _ _ _) (fun _ => LeO.refl _)
theorem tally_Most.calls (k : Nat) (a0_0 : Int) (a0_1 : Int) (a0_2 : Int) (a0_3 : Int) (a0_4 : Int) (a0_5 : Int) (a0_6 : Int) (a0_7 : Int) (a0_8 : Int) (a0_9 : Int) (A0_10 : Option Addr) (c0_10 : Nat) (l0_10 : List Int) (A1 : Option Addr) (c1 : Nat) (l1 : List Int) (r : Int) (w : World) (hr0_10 : Kd.C (Kd.int .i64) w A0_10 l0_10.length l0_10) (hc0_10 : l0_10.length ≤ c0_10) (hr1 : Kd.C (Kd.int .i64) w A1 l1.length l1) (hc1 : l1.length ≤ c1) (h : tally_Most.f k a0_0 a0_1 a0_2 a0_3 a0_4 a0_5 a0_6 a0_7 a0_8 a0_9 l0_10 l1 = some r) :
    Calls Try.prog 137 #[.agg #[.int .i64 a0_0, .int .i64 a0_1, .int .i64 a0_2, .int .i64 a0_3, .int .i64 a0_4, .int .i64 a0_5, .int .i64 a0_6, .int .i64 a0_7, .int .i64 a0_8, .int .i64 a0_9, .slice A0_10 l0_10.length c0_10], .slice A1 l1.length c1] w fun e w' => e = .returned (.int .i64 r) ∧ Below w.heap.size w w' := by
  have hu24 := Try.underlying24
  have HR0 := Sd.mk hr0_10
  have HC0 := Sd.mk hc0_10
  have HR1 := Sd.mk hr1
  have HC1 := Sd.mk hc1
  clear hr0_10 hc0_10 hr1 hc1
  unfold tally_Most.f at h
  obtain ⟨q, hq, h⟩ := Option.bind_eq_some_iff.mp h
  have HQ := Sd.mk hq
  clear hq
  by_cases c1 : q = 0
  · rw [if_pos c1] at h
    obtain rfl := Option.some.inj h
    have c1b : (q == 0) = true := beq_iff_eq.mpr c1
    clear c1 h
    go_enter Try.func137, Try.ntmps137
    go_wp2_with (go_at_call 146; refine (tally_Quorum.calls k _ _ _ _ _ _ _ _ _ _ _ _ _ q _ (Kd.C_alloc HR0.out _) HC0.out HQ.out).mono ?_; rintro e w1 ⟨rfl, hb1⟩)
    go_ret
    exact ⟨rfl, below_then (below_alloc (Below.refl _ w) _) (by simp) hb1⟩
  rw [if_neg c1] at h
  by_cases d3 : l1.length ≤ 1000000
  · rw [if_pos d3] at h
    obtain rfl := Option.some.inj h
    have c1b : (q == 0) = false := beq_eq_false_iff_ne.mpr c1
    clear c1 h
    go_enter Try.func137, Try.ntmps137
    go_wp2_with (first
      | (go_at_call 146; refine (tally_Quorum.calls k _ _ _ _ _ _ _ _ _ _ _ _ _ q _ (Kd.C_alloc HR0.out _) HC0.out HQ.out).mono ?_; rintro e w1 ⟨rfl, hb1⟩; have HB1 := Sd.mk (below_then (below_alloc (Below.refl _ w) _) (by simp) hb1); clear hb1)
      | (go_at_call 147; refine (tally_count.calls _ _ l1 _ (Kd.C_below HR1.out HB1.out) HC1.out d3).mono ?_; rintro e w2 ⟨rfl, hb2⟩; have HB2 := Sd.mk (below_then HB1.out HB1.out.size hb2); clear hb2)
      | ((with_reducible refine gate_dst (N := 13) rfl ?_); refine Kd.R_lit (Kd.int .i64) _ 3 ?hg (N := 13) ?hd (xs := ([1, 0] : List Int)) (inner := [.int .i64 1, .int .i64 0]) (ok := fun _ => True) (okp := fun _ => True) ?hr ?hp (fun _ hk => hk) trivial (Below.refl _ _) (Nat.le_refl _) (by simp) ?_; (case hd => rfl); (case hg => rfl); (case hr => first | (go_simp; done) | (go_simp; rfl)); (case hp => exact (Reps.one (show Kd.M (Kd.int .i64) _ _ _ 1 [.int .i64 1] from rfl) (Reps.one (show Kd.M (Kd.int .i64) _ _ _ 0 [.int .i64 0] from rfl) (Reps.none _ _)))); intro v1 w3 ho hb hg_ hnew_; clear hg_ hnew_; obtain ⟨Ao, co, rfl, hcc, hcr⟩ := Kd.R_reads ho; have HB3 := Sd.mk (below_then HB2.out HB2.out.size hb); have HCR := Sd.mk hcr; have HCC := Sd.mk hcc; clear ho hb hcr hcc)
      | (go_at_call 148; refine (tally_counted_first.calls _ _ _ _ _ Ao co ([1, 0] : List Int) _ HCR.out HCC.out (by simp) (by intro x h0 h1; have h2 : x < 2 := (by simpa using h1); have h3 : x = 0 ∨ x = 1 := (by omega); rcases h3 with rfl | rfl <;> simp [rd])).mono ?_; rintro e w4 ⟨rfl, hb4⟩; have HB4 := Sd.mk (below_then HB3.out HB3.out.size hb4); clear hb4))
    go_ret
    exact ⟨rfl, HB4.out⟩
  · rw [if_neg d3] at h
    cases h
end Go.Proofs.Ythblnnboeikgcaa.B
end
section
namespace Go.Proofs.Ythblnnboeikgcaa.B
open Go.RowKit Go.Proofs.YthblnnboeikgcaaW.PrintWords Go.Proofs.YthblnnboeikgcaaW.PrintLast Go.Proofs.YthblnnboeikgcaaW.PrintMore
attribute [local go_sem] max2_int min2_int max_two min_two max_three min_three max_four min_four   -- for this text's walks alone
set_option linter.unusedVariables false
set_option linter.unusedSimpArgs false
def tally_Least.f (k : Nat) (a0_0 : Int) (a0_1 : Int) (a0_2 : Int) (a0_3 : Int) (a0_4 : Int) (a0_5 : Int) (a0_6 : Int) (a0_7 : Int) (a0_8 : Int) (a0_9 : Int) (l0_10 : List Int) (a1 : Int) (l2 : List Int) : Option (Int) := (tally_Some.f k a0_0 a0_1 a0_2 a0_3 a0_4 a0_5 a0_6 a0_7 a0_8 a0_9 l0_10).bind fun q => if q = 0 then some a1 else if l2.length ≤ 1000000 then some (tally_counted_first.of (tally_count.cnt 0 l2) (tally_count.cnt 1 l2) (tally_count.cnt 2 l2) q a1 ([0, 1, 2] : List Int)) else none
theorem tally_Least.mono : ∀ a0 a1 a2 a3 a4 a5 a6 a7 a8 a9 a10 a11 a12 k, LeO (tally_Least.f k a0 a1 a2 a3 a4 a5 a6 a7 a8 a9 a10 a11 a12) (tally_Least.f (k + 1) a0 a1 a2 a3 a4 a5 a6 a7 a8 a9 a10 a11 a12) := by
  intro a0 a1 a2 a3 a4 a5 a6 a7 a8 a9 a10 a11 a12 k
  unfold tally_Least.f
  exact LeO.bind (tally_Some.mono _ _ _ _ _ _ _ _ _ _ _ _) (fun _ => LeO.refl _)
theorem tally_Least.calls (k : Nat) (a0_0 : Int) (a0_1 : Int) (a0_2 : Int) (a0_3 : Int) (a0_4 : Int) (a0_5 : Int) (a0_6 : Int) (a0_7 : Int) (a0_8 : Int) (a0_9 : Int) (A0_10 : Option Addr) (c0_10 : Nat) (l0_10 : List Int) (a1 : Int) (A2 : Option Addr) (c2 : Nat) (l2 : List Int) (r : Int) (w : World) (hr0_10 : Kd.C (Kd.int .i64) w A0_10 l0_10.length l0_10) (hc0_10 : l0_10.length ≤ c0_10) (hr2 : Kd.C (Kd.int .i64) w A2 l2.length l2) (hc2 : l2.length ≤ c2) (h : tally_Least.f k a0_0 a0_1 a0_2 a0_3 a0_4 a0_5 a0_6 a0_7 a0_8 a0_9 l0_10 a1 l2 = some r) :
    Calls Try.prog 138 #[.agg #[.int .i64 a0_0, .int .i64 a0_1, .int .i64 a0_2, .int .i64 a0_3, .int .i64 a0_4, .int .i64 a0_5, .int .i64 a0_6, .int .i64 a0_7, .int .i64 a0_8, .int .i64 a0_9, .slice A0_10 l0_10.length c0_10], .int .i64 a1, .slice A2 l2.length c2] w fun e w' => e = .returned (.int .i64 r) ∧ Below w.heap.size w w' := by
  have hu24 := Try.underlying24
  have HR0 := Sd.mk hr0_10
  have HC0 := Sd.mk hc0_10
  have HR1 := Sd.mk hr2
  have HC1 := Sd.mk hc2
  clear hr0_10 hc0_10 hr2 hc2
  unfold tally_Least.f at h
  obtain ⟨q, hq, h⟩ := Option.bind_eq_some_iff.mp h
  have HQ := Sd.mk hq
  clear hq
  by_cases c1 : q = 0
  · rw [if_pos c1] at h
    obtain rfl := Option.some.inj h
    have c1b : (q == 0) = true := beq_iff_eq.mpr c1
    clear c1 h
    go_enter Try.func138, Try.ntmps138
    go_wp2_with (go_at_call 149; refine (tally_Some.calls k _ _ _ _ _ _ _ _ _ _ _ _ _ q _ (Kd.C_alloc HR0.out _) HC0.out HQ.out).mono ?_; rintro e w1 ⟨rfl, hb1⟩)
    go_ret
    exact ⟨rfl, below_then (below_alloc (Below.refl _ w) _) (by simp) hb1⟩
  rw [if_neg c1] at h
  by_cases d3 : l2.length ≤ 1000000
  · rw [if_pos d3] at h
    obtain rfl := Option.some.inj h
    have c1b : (q == 0) = false := beq_eq_false_iff_ne.mpr c1
    clear c1 h
    go_enter Try.func138, Try.ntmps138
    go_wp2_with (first
      | (go_at_call 149; refine (tally_Some.calls k _ _ _ _ _ _ _ _ _ _ _ _ _ q _ (Kd.C_alloc HR0.out _) HC0.out HQ.out).mono ?_; rintro e w1 ⟨rfl, hb1⟩; have HB1 := Sd.mk (below_then (below_alloc (Below.refl _ w) _) (by simp) hb1); clear hb1)
      | (go_at_call 147; refine (tally_count.calls _ _ l2 _ (Kd.C_below HR1.out HB1.out) HC1.out d3).mono ?_; rintro e w2 ⟨rfl, hb2⟩; have HB2 := Sd.mk (below_then HB1.out HB1.out.size hb2); clear hb2)
      | ((with_reducible refine gate_dst (N := 17) rfl ?_); refine Kd.R_lit (Kd.int .i64) _ 3 ?hg (N := 17) ?hd (xs := ([0, 1, 2] : List Int)) (inner := [.int .i64 0, .int .i64 1, .int .i64 2]) (ok := fun _ => True) (okp := fun _ => True) ?hr ?hp (fun _ hk => hk) trivial (Below.refl _ _) (Nat.le_refl _) (by simp) ?_; (case hd => rfl); (case hg => rfl); (case hr => first | (go_simp; done) | (go_simp; rfl)); (case hp => exact (Reps.one (show Kd.M (Kd.int .i64) _ _ _ 0 [.int .i64 0] from rfl) (Reps.one (show Kd.M (Kd.int .i64) _ _ _ 1 [.int .i64 1] from rfl) (Reps.one (show Kd.M (Kd.int .i64) _ _ _ 2 [.int .i64 2] from rfl) (Reps.none _ _))))); intro v1 w3 ho hb hg_ hnew_; clear hg_ hnew_; obtain ⟨Ao, co, rfl, hcc, hcr⟩ := Kd.R_reads ho; have HB3 := Sd.mk (below_then HB2.out HB2.out.size hb); have HCR := Sd.mk hcr; have HCC := Sd.mk hcc; clear ho hb hcr hcc)
      | (go_at_call 148; refine (tally_counted_first.calls _ _ _ _ _ Ao co ([0, 1, 2] : List Int) _ HCR.out HCC.out (by simp) (by intro x h0 h1; have h2 : x < 3 := (by simpa using h1); have h3 : x = 0 ∨ x = 1 ∨ x = 2 := (by omega); rcases h3 with rfl | rfl | rfl <;> simp [rd])).mono ?_; rintro e w4 ⟨rfl, hb4⟩; have HB4 := Sd.mk (below_then HB3.out HB3.out.size hb4); clear hb4))
    go_ret
    exact ⟨rfl, HB4.out⟩
  · rw [if_neg d3] at h
    cases h
end Go.Proofs.Ythblnnboeikgcaa.B
end
