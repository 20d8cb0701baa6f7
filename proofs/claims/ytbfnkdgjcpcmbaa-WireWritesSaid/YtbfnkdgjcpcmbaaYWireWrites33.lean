import Derived.Test.YtbfnkdgjcpcmbaaYWireWrites31
set_option maxHeartbeats 1000000
namespace Go.Proofs.Ytbfnkdgjcpcmbaa.X
open Go.RowKit Go.Proofs.YtbfnkdgjcpcmbaaW.PrintWords Go.Proofs.YtbfnkdgjcpcmbaaW.PrintLast Go.Proofs.YtbfnkdgjcpcmbaaW.PrintMore
attribute [local go_sem] max2_int min2_int max_two min_two max_three min_three max_four min_four   -- for this text's walks alone
set_option linter.unusedVariables false
set_option linter.unusedSimpArgs false
def crc_Open.f (k : Nat) (a0 : ByteArray) : Option (ByteArray × Int) :=
  if a0.size < 4 then some ((⟨#[]⟩ : ByteArray), 5) else
  if a0.size ≤ 140737488351236 then
    (num_Get.f k a0 ((a0.size - 4 : Nat) : Int) 4).bind fun t =>
      if t.2 = 0 then (crc_Sum.f k (a0.extract 0 (a0.size - 4))).bind fun s => if t.1 % 4294967296 = s then some (a0.extract 0 (a0.size - 4), 0) else some ((⟨#[]⟩ : ByteArray), 4)
      else some ((⟨#[]⟩ : ByteArray), 4)
  else none
theorem crc_Open.mono : ∀ a0 k, LeO (crc_Open.f k a0) (crc_Open.f (k + 1) a0) := by
  intro a0 k
  have h1 := num_Get.mono a0 ((a0.size - 4 : Nat) : Int) 4 k
  have h2 := crc_Sum.mono (a0.extract 0 (a0.size - 4)) k
  unfold crc_Open.f
  split
  · exact fun r h => h
  split
  · intro r h
    obtain ⟨t, ht, h⟩ := Option.bind_eq_some_iff.1 h
    refine Option.bind_eq_some_iff.2 ⟨t, h1 _ ht, ?_⟩
    split at h
    · rename_i e
      rw [if_pos e]
      obtain ⟨s, hs, h⟩ := Option.bind_eq_some_iff.1 h
      exact Option.bind_eq_some_iff.2 ⟨s, h2 _ hs, h⟩
    · rename_i e
      rw [if_neg e]
      exact h
  · exact fun r h => h
theorem crc_Open.calls (k : Nat) (a0 : ByteArray) (r1 : ByteArray) (r2 : Int) (w : World) (h : crc_Open.f k a0 = some (r1, r2)) :
    Calls Try.prog 55 #[.string a0] w fun e w' => e = .returned (.tuple #[.string r1, .int .i64 r2]) ∧ Drawn0 w w' := by
  unfold crc_Open.f at h
  by_cases c1 : a0.size < 4
  · rw [if_pos c1] at h
    simp only [Option.some.injEq, Prod.mk.injEq] at h
    obtain ⟨rfl, rfl⟩ := h
    have c1b : decide ((a0.size : Int) < 4) = true := decide_eq_true (by omega)
    have c1c : decide (a0.size < 4) = true := decide_eq_true c1
    go_enter Try.func55, Try.ntmps55
    go_wp2
    go_ret2
    exact ⟨rfl, Drawn0.refl _⟩
  rw [if_neg c1] at h
  by_cases c2 : a0.size ≤ 140737488351236
  case neg => simp [if_neg c2] at h
  rw [if_pos c2] at h
  obtain ⟨⟨t1, t2⟩, ht, h⟩ := Option.bind_eq_some_iff.1 h
  have c1b : decide ((a0.size : Int) < 4) = false := decide_eq_false (by omega)
  have c1c : decide (a0.size < 4) = false := decide_eq_false c1
  have HT := Sd.mk ht
  clear ht
  by_cases c3 : t2 = 0
  · rw [if_pos c3] at h
    obtain ⟨s, hs, h⟩ := Option.bind_eq_some_iff.1 h
    have HS := Sd.mk hs
    clear hs
    have c3b : (t2 == 0) = true := beq_iff_eq.mpr c3
    have c3c : (t2 != 0) = false := bne_eq_false_iff_eq.mpr c3
    clear c3
    by_cases c4 : t1 % 4294967296 = s
    · rw [if_pos c4] at h
      simp only [Option.some.injEq, Prod.mk.injEq] at h
      obtain ⟨rfl, rfl⟩ := h
      have c4b : (t1 % 4294967296 == s) = true := beq_iff_eq.mpr c4
      have c4c : (t1 % 4294967296 != s) = false := bne_eq_false_iff_eq.mpr c4
      clear c4
      go_enter Try.func55, Try.ntmps55
      go_wp2_with (first | (go_at_call 76; refine (num_Get.calls k _ _ _ t1 t2 _ HT.out).mono ?_; rintro e w' ⟨rfl, ⟨nd, rfl⟩⟩) | (go_at_call 72; refine (crc_Sum.calls k _ s _ HS.out).mono ?_; rintro e w' ⟨rfl, ⟨nd, rfl⟩⟩))
      go_ret2
      exact ⟨rfl, by repeat (first | exact Drawn0.refl _ | apply Drawn0.step)⟩
    · rw [if_neg c4] at h
      simp only [Option.some.injEq, Prod.mk.injEq] at h
      obtain ⟨rfl, rfl⟩ := h
      have c4b : (t1 % 4294967296 == s) = false := beq_eq_false_iff_ne.mpr c4
      have c4c : (t1 % 4294967296 != s) = true := bne_iff_ne.mpr c4
      clear c4
      go_enter Try.func55, Try.ntmps55
      go_wp2_with (first | (go_at_call 76; refine (num_Get.calls k _ _ _ t1 t2 _ HT.out).mono ?_; rintro e w' ⟨rfl, ⟨nd, rfl⟩⟩) | (go_at_call 72; refine (crc_Sum.calls k _ s _ HS.out).mono ?_; rintro e w' ⟨rfl, ⟨nd, rfl⟩⟩))
      go_ret2
      exact ⟨rfl, by repeat (first | exact Drawn0.refl _ | apply Drawn0.step)⟩
  · rw [if_neg c3] at h
    simp only [Option.some.injEq, Prod.mk.injEq] at h
    obtain ⟨rfl, rfl⟩ := h
    have c3b : (t2 == 0) = false := beq_eq_false_iff_ne.mpr c3
    have c3c : (t2 != 0) = true := bne_iff_ne.mpr c3
    clear c3
    go_enter Try.func55, Try.ntmps55
    go_wp2_with (go_at_call 76; refine (num_Get.calls k _ _ _ t1 t2 _ HT.out).mono ?_; rintro e w' ⟨rfl, ⟨nd, rfl⟩⟩)
    go_ret2
    exact ⟨rfl, by repeat (first | exact Drawn0.refl _ | apply Drawn0.step)⟩
end Go.Proofs.Ytbfnkdgjcpcmbaa.X
