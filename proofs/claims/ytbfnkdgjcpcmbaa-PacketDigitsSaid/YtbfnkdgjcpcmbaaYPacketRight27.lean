import Derived.Test.YtbfnkdgjcpcmbaaYPacketRight12
namespace Go.Proofs.Ytbfnkdgjcpcmbaa.X
open Go.RowKit Go.Proofs.YtbfnkdgjcpcmbaaW.PrintWords Go.Proofs.YtbfnkdgjcpcmbaaW.PrintLast Go.Proofs.YtbfnkdgjcpcmbaaW.PrintMore
attribute [local go_sem] max2_int min2_int max_two min_two max_three min_three max_four min_four   -- for this text's walks alone
set_option linter.unusedVariables false
set_option linter.unusedSimpArgs false
def packet_Carry.f (a0_0 : ByteArray) (a0_1 : Int) (a0_2 : ByteArray) (a0_3 : Int) (a0_4 : Int) (a0_5 : ByteArray) (a1 : Int) (a2 : Int) (a3 : ByteArray) : Option (ByteArray × Int × ByteArray × Int × Int × ByteArray) := if a1 < 0 then some (a0_0, a0_1, a0_2, 0, 0, (⟨#[]⟩ : ByteArray)) else if 32 ≤ a1 then some (a0_0, a0_1, a0_2, 0, 0, (⟨#[]⟩ : ByteArray)) else some (a0_0, a0_1, a0_2, wrap64 (a1 + 1), a2, a3)
set_option maxHeartbeats 1000000 in
set_option maxRecDepth 100000 in
theorem packet_Carry.calls (a0_0 : ByteArray) (a0_1 : Int) (a0_2 : ByteArray) (a0_3 : Int) (a0_4 : Int) (a0_5 : ByteArray) (a1 : Int) (a2 : Int) (a3 : ByteArray) (r1 : ByteArray) (r2 : Int) (r3 : ByteArray) (r4 : Int) (r5 : Int) (r6 : ByteArray) (w : World) (h : packet_Carry.f a0_0 a0_1 a0_2 a0_3 a0_4 a0_5 a1 a2 a3 = some (r1, r2, r3, r4, r5, r6)) :
    Calls Try.prog 23 #[.agg #[.string a0_0, .int .i64 a0_1, .string a0_2, .int .i64 a0_3, .int .i64 a0_4, .string a0_5], .int .i64 a1, .int .i64 a2, .string a3] w fun e w' => e = .returned (.agg #[.string r1, .int .i64 r2, .string r3, .int .i64 r4, .int .i64 r5, .string r6]) ∧ Below w.heap.size w w' := by
  unfold packet_Carry.f at h
  by_cases h1 : a1 < 0
  · rw [if_pos h1] at h
    simp only [Option.some.injEq, Prod.mk.injEq] at h
    obtain ⟨rfl, rfl, rfl, rfl, rfl, rfl⟩ := h
    have b1 : decide (a1 < 0) = true := decide_eq_true h1
    clear h1
    go_enter Try.func23, Try.ntmps23
    go_wp2
    refine bodyPost_ret (v := .agg #[.string a0_0, .int .i64 a0_1, .string a0_2, .int .i64 0, .int .i64 0, .string ⟨#[]⟩]) (by simp [results, Try.results21, go_sem]) rfl ?_
    simp only []
    go_at_K
    go_wp2
    refine bodyPost_ret (v := .agg #[.string a0_0, .int .i64 a0_1, .string a0_2, .int .i64 0, .int .i64 0, .string ⟨#[]⟩]) (by simp [results, Try.results23, go_sem]) rfl ?_
    exact ⟨rfl, by repeat (first | exact Below.refl _ _ | apply below_alloc | (refine Below.setCell ?_ (by simp; omega) _))⟩
  · rw [if_neg h1] at h
    have b1 : decide (a1 < 0) = false := decide_eq_false h1
    clear h1
    by_cases h2 : 32 ≤ a1
    · rw [if_pos h2] at h
      simp only [Option.some.injEq, Prod.mk.injEq] at h
      obtain ⟨rfl, rfl, rfl, rfl, rfl, rfl⟩ := h
      have b2 : decide (32 ≤ a1) = true := decide_eq_true h2
      clear h2
      go_enter Try.func23, Try.ntmps23
      go_wp2
      refine bodyPost_ret (v := .agg #[.string a0_0, .int .i64 a0_1, .string a0_2, .int .i64 0, .int .i64 0, .string ⟨#[]⟩]) (by simp [results, Try.results21, go_sem]) rfl ?_
      simp only []
      go_at_K
      go_wp2
      refine bodyPost_ret (v := .agg #[.string a0_0, .int .i64 a0_1, .string a0_2, .int .i64 0, .int .i64 0, .string ⟨#[]⟩]) (by simp [results, Try.results23, go_sem]) rfl ?_
      exact ⟨rfl, by repeat (first | exact Below.refl _ _ | apply below_alloc | (refine Below.setCell ?_ (by simp; omega) _))⟩
    · rw [if_neg h2] at h
      simp only [Option.some.injEq, Prod.mk.injEq] at h
      obtain ⟨rfl, rfl, rfl, rfl, rfl, rfl⟩ := h
      have b2 : decide (32 ≤ a1) = false := decide_eq_false h2
      clear h2
      go_enter Try.func23, Try.ntmps23
      go_wp2
      refine bodyPost_ret (v := .agg #[.string a0_0, .int .i64 a0_1, .string a0_2, .int .i64 0, .int .i64 0, .string ⟨#[]⟩]) (by simp [results, Try.results21, go_sem]) rfl ?_
      simp only []
      go_at_K
      go_wp2
      refine bodyPost_ret (v := .agg #[.string a0_0, .int .i64 a0_1, .string a0_2, .int .i64 (wrap64 (a1 + 1)), .int .i64 a2, .string a3]) (by simp [results, Try.results23, go_sem]) rfl ?_
      exact ⟨rfl, by repeat (first | exact Below.refl _ _ | apply below_alloc | (refine Below.setCell ?_ (by simp; omega) _))⟩
end Go.Proofs.Ytbfnkdgjcpcmbaa.X
