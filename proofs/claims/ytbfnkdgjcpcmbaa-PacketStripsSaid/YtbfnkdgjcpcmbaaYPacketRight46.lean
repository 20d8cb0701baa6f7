import Derived.Test.YtbfnkdgjcpcmbaaYPacketRight45
import Derived.Test.YtbfnkdgjcpcmbaaYPacketRight41
import Derived.Test.YtbfnkdgjcpcmbaaYPacketRight28
set_option linter.unusedVariables false
set_option linter.unusedSimpArgs false
namespace Go.Proofs.Ytbfnkdgjcpcmbaa.packetStrips
open Go.RowKit Go.Proofs.Ytbfnkdgjcpcmbaa.X Go.Proofs.YtbfnkdgjcpcmbaaW.PrintWords Go.Proofs.Ytbfnkdgjcpcmbaa.ConfLib Go.Proofs.Ytbfnkdgjcpcmbaa.PacketLib
theorem known : bellwetherlaw10_known.f 1999 = some true := by decide +kernel
theorem pure : Pure := by
  rintro ⟨n, f, d, p, r, dr, o, s, m, fr, t⟩ ⟨v, ex, vec, slot, cyc, tx⟩ x c _ _ _ _
  refine ⟨2000, ?_⟩
  have hm : (x < 0 ∨ 32 ≤ x → packet_Carry.f v ex vec slot cyc tx x c tx = some (v, ex, vec, 0, 0, (⟨#[]⟩ : ByteArray))) ∧ (0 ≤ x → x < 32 → packet_Carry.f v ex vec slot cyc tx x c tx = some (v, ex, vec, x + 1, c, tx)) := by
    unfold packet_Carry.f
    constructor
    · intro h
      by_cases h1 : x < 0
      · rw [if_pos h1]
      · rw [if_neg h1, if_pos (by omega)]
    · intro h0 h1
      rw [if_neg (by omega), if_neg (by omega), ConfLib.wrap_small (by omega) (by omega)]
  have hs : ∀ (slot cyc : Int) (tx : ByteArray), packet_Strip.f v ex vec slot cyc tx = some (v, ex, vec, 0, 0, (⟨#[]⟩ : ByteArray)) := fun _ _ _ => rfl
  have hR : ∀ (slot cyc : Int) (tx : ByteArray), packet_Right.f 1999 n f d p r dr o s m fr t v ex vec slot cyc tx = some (right n f d p r dr o s m fr t v ex vec slot cyc tx) := fun slot cyc tx => right_at n f d p r dr o s m fr t v ex vec slot cyc tx (by decide)
  have hstrip : right n f d p r dr o s m fr t v ex vec slot cyc tx = 0 → right n f d p r dr o s m fr t v ex vec 0 0 (⟨#[]⟩ : ByteArray) = 0 := by
    rw [right_zero, right_zero]
    rintro ⟨h1, h2, h3, h4, h5, h6, h7⟩
    refine ⟨h1, h2, h3, Int.le_refl 0, by omega, (numOk_iff _ _ _ _).2 ⟨Int.le_refl 0, ?_, fun _ => ⟨rfl, by decide +kernel⟩⟩, by decide⟩
    have := (numOk_iff _ _ _ _).1 h6
    omega
  have hcarry : right n f d p r dr o s m fr t v ex vec slot cyc tx = 0 → 0 ≤ x → x < t.length → 0 ≤ c → c < m → x < 32 ∧ right n f d p r dr o s m fr t v ex vec (x + 1) c tx = 0 := by
    rw [right_zero, right_zero]
    rintro ⟨h1, h2, h3, h4, h5, h6, h7⟩ hx0 hx1 hc0 hc1
    have ht := (plain_zero.1 h1).2.2.2
    unfold tableOk at ht
    exact ⟨by omega, h1, h2, h3, by omega, by omega, (numOk_iff _ _ _ _).2 ⟨hc0, hc1, fun q => by omega⟩, h7⟩
  unfold bellwetherlaw10_PacketStrips.f
  simp only [hs, Option.bind_some]
  by_cases hx : x < 0 ∨ 32 ≤ x
  · simp only [hm.1 hx, Option.bind_some, hs, beq_self_eq_true, Bool.not_true, Bool.or_self, if_true, bellwetherlaw10_PacketStrips.j0, hR, known]
    simp only [Bool.false_eq_true, if_false, bne_self_eq_false]
    by_cases h0 : right n f d p r dr o s m fr t v ex vec slot cyc tx = 0
    · rw [if_pos h0, if_pos (hstrip h0)]
      by_cases hx0 : x ≥ 0
      · by_cases hxt : x < (t.length : Int)
        · have ht := (plain_zero.1 ((right_zero _ _ _ _ _ _ _ _ _ _ _ _ _ _ _ _ _).1 h0).1).2.2.2
          unfold tableOk at ht
          omega
        · simp [hx0, hxt]
      · simp [hx0]
    · rw [if_neg h0]
  · simp only [hm.2 (by omega) (by omega), Option.bind_some, hs, beq_self_eq_true, Bool.not_true, Bool.or_self, if_true, bellwetherlaw10_PacketStrips.j0, hR, known]
    simp only [Bool.false_eq_true, if_false, bne_self_eq_false]
    by_cases h0 : right n f d p r dr o s m fr t v ex vec slot cyc tx = 0
    · rw [if_pos h0, if_pos (hstrip h0)]
      by_cases hxt : x < (t.length : Int)
      · by_cases hc0 : c ≥ 0
        · by_cases hc1 : c < m
          · have := hcarry h0 (by omega) hxt hc0 hc1
            rw [this.2]
            simp
          · simp [hc1]
        · simp [hc0]
      · simp [hxt]
    · rw [if_neg h0]
end Go.Proofs.Ytbfnkdgjcpcmbaa.packetStrips
