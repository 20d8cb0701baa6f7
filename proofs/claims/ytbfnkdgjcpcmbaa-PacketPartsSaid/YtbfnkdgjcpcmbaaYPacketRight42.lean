import Derived.Test.YtbfnkdgjcpcmbaaYPacketRight40
import Derived.Test.YtbfnkdgjcpcmbaaYPacketRight41
import Derived.Test.YtbfnkdgjcpcmbaaYPacketRight26
import Derived.Test.YtbfnkdgjcpcmbaaYPacketRight29
import Derived.Test.YtbfnkdgjcpcmbaaYPacketRight38
import Derived.Test.YtbfnkdgjcpcmbaaYPacketRight28
set_option linter.unusedVariables false
set_option linter.unusedSimpArgs false
namespace Go.Proofs.Ytbfnkdgjcpcmbaa.packetParts
open Go.RowKit Go.Proofs.Ytbfnkdgjcpcmbaa.X Go.Proofs.YtbfnkdgjcpcmbaaW.PrintWords Go.Proofs.Ytbfnkdgjcpcmbaa.ConfLib Go.Proofs.Ytbfnkdgjcpcmbaa.PacketLib
theorem known : bellwetherlaw10_known.f 2000 = some true := by decide +kernel
theorem ref_at (s : ByteArray) (i : Int) : bellwetherref10_at.f s i = some (dig s i) := by
  unfold bellwetherref10_at.f dig
  by_cases h0 : i < 0
  · rw [if_pos h0, if_pos h0]
  · rw [if_neg h0, if_neg h0]
    by_cases h1 : i ≥ (s.size : Int)
    · rw [if_pos h1, if_pos h1]
    · have hb := bt_range s i (by omega) (by omega)
      rw [if_neg h1, if_neg h1, if_pos (by omega), if_pos (by omega)]
      by_cases h2 : bt s i < 48
      · rw [if_pos h2, if_pos h2]
      · rw [if_neg h2, if_neg h2]
        by_cases h3 : bt s i > 50
        · rw [if_pos h3, if_pos h3]
        · rw [if_neg h3, if_neg h3, show (bt s i - 48) % 256 = bt s i - 48 by omega]
theorem ref_bit_at (v : ByteArray) (ex : Int) (vec : ByteArray) (slot cyc : Int) (tx : ByteArray) (x i : Int) : bellwetherref10_Bit.f v ex vec slot cyc tx x i = some (bit ex vec x i) := by
  unfold bellwetherref10_Bit.f bit
  by_cases h0 : x < 0
  · rw [if_pos h0, if_pos h0]
  · rw [if_neg h0, if_neg h0]
    by_cases h1 : x > 65535
    · rw [if_pos h1, if_pos h1]
    · rw [if_neg h1, if_neg h1, ConfLib.wrap_small (by omega) (by omega), ref_at]
      simp only [Option.bind_some]
      split <;> rfl
theorem rep_at (r : Int) (h : r = 0 ∨ r = 3 ∨ r = 6 ∨ r = 9 ∨ r = 12 ∨ r = 15) : strings_Repeat.f (⟨#[48]⟩ : ByteArray) r = bellwetherref10_Rep.f 2000 (⟨#[48]⟩ : ByteArray) r ∧ (strings_Repeat.f (⟨#[48]⟩ : ByteArray) r).isSome = true := by
  rcases h with rfl | rfl | rfl | rfl | rfl | rfl <;> decide +kernel
theorem rounds_cases (n f d p r dr o s m fr : Int) (t : List Int) : rounds n f d p r dr o s m fr t = 0 ∨ rounds n f d p r dr o s m fr t = 3 ∨ rounds n f d p r dr o s m fr t = 6 ∨ rounds n f d p r dr o s m fr t = 9 ∨ rounds n f d p r dr o s m fr t = 12 ∨ rounds n f d p r dr o s m fr t = 15 := by
  unfold rounds
  by_cases h : plain n f d p r dr o s m fr t = 0
  · have := plain_facts h
    rw [if_pos h]
    omega
  · rw [if_neg h]
    exact Or.inl rfl
theorem pure : Pure := by
  rintro ⟨n, f, d, p, r, dr, o, s, m, fr, t⟩ ⟨v, ex, vec, slot, cyc, tx⟩ x i _ _ _ _
  refine ⟨2000, ?_⟩
  unfold bellwetherlaw10_PacketParts.f packet_Blank.f bellwetherref10_Blank.f bellwetherref10_Vote.f bellwetherref10_Carry.f packet_Carry.f bellwetherref10_Strip.f packet_Strip.f
  obtain ⟨h1, h2⟩ := rep_at _ (rounds_cases n f d p r dr o s m fr t)
  obtain ⟨b, hb⟩ := Option.isSome_iff_exists.1 h2
  have hb2 := h1.symm.trans hb
  simp only [rounds_at n f d p r dr o s m fr t (show 10 < 2000 by decide), ref_rounds_at n f d p r dr o s m fr t (show 700 < 2000 by decide), hb, hb2, vote_at v ex vec slot cyc tx x (show 0 < 2000 by decide), bit_at v ex vec slot cyc tx x i (show 0 < 2000 by decide), ref_at, ref_bit_at, known, Option.bind_some, if_true, beq_self_eq_true, Bool.and_self, ge_iff_le]
  by_cases h1 : x < 0
  · simp [h1]
  · by_cases h2 : 32 ≤ x
    · simp [h1, h2]
    · simp [h1, h2]
end Go.Proofs.Ytbfnkdgjcpcmbaa.packetParts
