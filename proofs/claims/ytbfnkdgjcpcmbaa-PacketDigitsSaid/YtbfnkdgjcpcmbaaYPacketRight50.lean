import Derived.Test.YtbfnkdgjcpcmbaaYPacketRight49
import Derived.Test.YtbfnkdgjcpcmbaaYPacketRight41
import Derived.Test.YtbfnkdgjcpcmbaaYPacketRight28
set_option linter.unusedVariables false
set_option linter.unusedSimpArgs false
namespace Go.Proofs.Ytbfnkdgjcpcmbaa.packetDigits
open Go.RowKit Go.Proofs.Ytbfnkdgjcpcmbaa.X Go.Proofs.YtbfnkdgjcpcmbaaW.PrintWords Go.Proofs.Ytbfnkdgjcpcmbaa.ConfLib Go.Proofs.Ytbfnkdgjcpcmbaa.PacketLib
theorem known : bellwetherlaw10_known.f 2000 = some true := by decide +kernel
theorem pure : Pure := by
  rintro ⟨n, f, d, p, r, dr, o, s, m, fr, t⟩ ⟨v, ex, vec, slot, cyc, tx⟩ x i _ _ hx _
  refine ⟨2000, ?_⟩
  unfold bellwetherlaw10_PacketDigits.f
  simp only [right_at n f d p r dr o s m fr t v ex vec slot cyc tx (show 12 < 2000 by decide), vote_at v ex vec slot cyc tx x (show 0 < 2000 by decide), bit_at v ex vec slot cyc tx x i (show 0 < 2000 by decide), ref_rounds_at n f d p r dr o s m fr t (show 700 < 2000 by decide), ref_bits_at n f d p r dr o s m fr t (show 700 < 2000 by decide), known, Option.bind_some]
  by_cases h0 : right n f d p r dr o s m fr t v ex vec slot cyc tx = 0
  · rw [if_pos h0]
    obtain ⟨h1, h2, h3, _, _, _, _⟩ := (right_zero _ _ _ _ _ _ _ _ _ _ _ _ _ _ _ _ _).1 h0
    obtain ⟨v1, v2, v3⟩ := D_dig h2 x
    have hr : rounds n f d p r dr o s m fr t ≤ 15 := by
      unfold rounds
      have := plain_facts h1
      rw [if_pos h1]
      omega
    have e1 : ∀ q : Bool, (decide (dig v x ≥ 0) == decide (x < rounds n f d p r dr o s m fr t)) = q → 0 ≤ x → q = true := by
      intro q hq h
      rw [← hq]
      by_cases a : x < rounds n f d p r dr o s m fr t
      · rw [decide_eq_true a, decide_eq_true (v3.2 ⟨h, a⟩)]
        rfl
      · rw [decide_eq_false a, decide_eq_false (fun z => a (v3.1 z).2)]
        rfl
    have b1 : -1 ≤ bit ex vec x i ∧ bit ex vec x i ≤ 2 ∧ (0 ≤ bit ex vec x i ↔ 0 < ex ∧ x = ex - 1 ∧ 0 ≤ i ∧ i < ConfLib.bits n f d p r dr o s m fr t) := by
      unfold vecOk at h3
      unfold bit
      by_cases hx0 : x < 0
      · rw [if_pos hx0]
        omega
      rw [if_neg hx0]
      by_cases hx1 : x > 65535
      · rw [if_pos hx1]
        refine ⟨by omega, by omega, fun z => by omega, ?_⟩
        rintro ⟨z1, z2, z3⟩
        rw [if_neg (by omega), Bool.and_eq_true] at h3
        have := of_decide_eq_true h3.1
        omega
      rw [if_neg hx1]
      by_cases he : ex = x + 1
      · rw [if_pos he]
        rw [if_neg (by omega), Bool.and_eq_true] at h3
        obtain ⟨w1, w2, w3⟩ := D_dig h3.2 i
        refine ⟨w1, w2, ?_⟩
        rw [w3]
        constructor
        · rintro ⟨z1, z2⟩
          exact ⟨by omega, by omega, z1, z2⟩
        · rintro ⟨_, _, z1, z2⟩
          exact ⟨z1, z2⟩
      · rw [if_neg he]
        omega
    obtain ⟨w1, w2, w3⟩ := b1
    have hwx : ex > 0 → wrap64 (ex - 1) = ex - 1 := by
      intro he
      unfold vecOk at h3
      rw [if_neg (by omega), Bool.and_eq_true] at h3
      have := of_decide_eq_true h3.1
      exact ConfLib.wrap_small (by omega) (by omega)
    have e2 : 0 < ex → x = ex - 1 → 0 ≤ i → (decide (bit ex vec x i ≥ 0) == decide (i < ConfLib.bits n f d p r dr o s m fr t)) = true := by
      intro g1 g2 g3
      by_cases a : i < ConfLib.bits n f d p r dr o s m fr t
      · rw [decide_eq_true a, decide_eq_true (w3.2 ⟨g1, g2, g3, a⟩)]
        rfl
      · rw [decide_eq_false a, decide_eq_false (fun z => a (w3.1 z).2.2.2)]
        rfl
    have e3 : ¬ (0 < ex ∧ x = ex - 1 ∧ 0 ≤ i) → (decide (bit ex vec x i ≥ 0) == false) = true := by
      intro g
      rw [decide_eq_false (fun z => g ⟨(w3.1 z).1, (w3.1 z).2.1, (w3.1 z).2.2.1⟩)]
      rfl
    have e4 : ¬ 0 ≤ x → (decide (dig v x ≥ 0) == false) = true := by
      intro g
      rw [decide_eq_false (fun z => g (v3.1 z).1)]
      rfl
    have k1 : dig v x ≥ -1 := v1
    have k2 : bit ex vec x i ≥ -1 := w1
    by_cases g1 : ex > 0
    · rw [if_pos g1, hwx g1]
      by_cases g2 : x = ex - 1
      · rw [if_pos g2]
        by_cases g3 : i ≥ 0
        · rw [if_pos g3, if_pos k1, if_pos v2]
          by_cases g4 : x ≥ 0
          · rw [if_pos g4, if_pos (e1 _ rfl g4), if_pos k2, if_pos w2, if_pos (e2 g1 g2 g3)]
          · rw [if_neg g4, if_pos (e4 g4), if_pos k2, if_pos w2, if_pos (e2 g1 g2 g3)]
        · rw [if_neg g3, if_pos k1, if_pos v2]
          have g := e3 (fun z => g3 z.2.2)
          by_cases g4 : x ≥ 0
          · rw [if_pos g4, if_pos (e1 _ rfl g4), if_pos k2, if_pos w2, if_pos g]
          · rw [if_neg g4, if_pos (e4 g4), if_pos k2, if_pos w2, if_pos g]
      · rw [if_neg g2, if_pos k1, if_pos v2]
        have g := e3 (fun z => g2 z.2.1)
        by_cases g4 : x ≥ 0
        · rw [if_pos g4, if_pos (e1 _ rfl g4), if_pos k2, if_pos w2, if_pos g]
        · rw [if_neg g4, if_pos (e4 g4), if_pos k2, if_pos w2, if_pos g]
    · rw [if_neg g1, if_pos k1, if_pos v2]
      have g := e3 (fun z => g1 z.1)
      by_cases g4 : x ≥ 0
      · rw [if_pos g4, if_pos (e1 _ rfl g4), if_pos k2, if_pos w2, if_pos g]
      · rw [if_neg g4, if_pos (e4 g4), if_pos k2, if_pos w2, if_pos g]
  · rw [if_neg h0]
end Go.Proofs.Ytbfnkdgjcpcmbaa.packetDigits
