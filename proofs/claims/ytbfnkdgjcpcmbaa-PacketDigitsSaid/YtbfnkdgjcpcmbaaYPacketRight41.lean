import Derived.Test.YtbfnkdgjcpcmbaaYPacketRight35
import Derived.Test.YtbfnkdgjcpcmbaaYPacketRight26
import Derived.Test.YtbfnkdgjcpcmbaaYPacketRight27
set_option linter.unusedVariables false
set_option linter.unusedSimpArgs false
namespace Go.Proofs.Ytbfnkdgjcpcmbaa.PacketLib
open Go.RowKit Go.Proofs.Ytbfnkdgjcpcmbaa.X Go.Proofs.YtbfnkdgjcpcmbaaW.PrintWords Go.Proofs.Ytbfnkdgjcpcmbaa.ConfLib Go.Proofs.Ytbfnkdgjcpcmbaa.Bytes
def dig (s : ByteArray) (i : Int) : Int := if i < 0 then -1 else if i ≥ (s.size : Int) then -1 else if bt s i < 48 then -1 else if bt s i > 50 then -1 else bt s i - 48
theorem bt_range (s : ByteArray) (i : Int) (h0 : 0 ≤ i) (h1 : i < (s.size : Int)) : 0 ≤ bt s i ∧ bt s i < 256 := by
  obtain ⟨j, rfl⟩ := Int.eq_ofNat_of_zero_le h0
  rw [bt_nat s j (by omega)]
  have := (s.data.toList[j]'(by rw [data_length]; omega)).toNat_lt
  omega
theorem digit_at (s : ByteArray) (i : Int) {k : Nat} (hk : 0 < k) : packet_digit.f k s i = some (dig s i) := by
  obtain ⟨k, rfl⟩ : ∃ j, k = j + 1 := ⟨k - 1, by omega⟩
  unfold packet_digit.f dig
  simp only [packet_digit.j0, if_true]
  by_cases h0 : i < 0
  · rw [if_pos h0, if_pos h0]
  · rw [if_neg h0, if_neg h0]
    by_cases h1 : i ≥ (s.size : Int)
    · rw [if_pos (decide_eq_true h1), if_pos h1]
    · have hb := bt_range s i (by omega) (by omega)
      rw [if_neg (by rw [decide_eq_false h1]; decide), if_neg h1, if_pos (by omega), if_pos (by omega), ConfLib.wrap_small (n := bt s i) (by omega) (by omega), ConfLib.wrap_small (by omega) (by omega)]
      by_cases h2 : bt s i < 48
      · rw [if_neg (by omega), if_pos h2]
      · rw [if_pos (by omega), if_neg h2]
        by_cases h3 : bt s i > 50
        · rw [if_neg (by omega), if_pos h3]
        · rw [if_pos (by omega), if_neg h3]
section
variable (n f d p r dr o s m fr : Int) (t : List Int) (v : ByteArray) (ex : Int) (vec : ByteArray) (slot cyc : Int) (tx : ByteArray)
def bit (ex : Int) (vec : ByteArray) (x i : Int) : Int := if x < 0 then -1 else if x > 65535 then -1 else if ex = x + 1 then dig vec i else -1
theorem vote_at (x : Int) {k : Nat} (hk : 0 < k) : packet_Vote.f k v ex vec slot cyc tx x = some (dig v x) := by
  unfold packet_Vote.f
  rw [digit_at v x hk]
  rfl
theorem bit_at (x i : Int) {k : Nat} (hk : 0 < k) : packet_Bit.f k v ex vec slot cyc tx x i = some (bit ex vec x i) := by
  unfold packet_Bit.f bit
  by_cases h0 : x < 0
  · rw [if_pos h0, if_pos h0]
  · rw [if_neg h0, if_neg h0]
    by_cases h1 : x > 65535
    · rw [if_pos h1, if_pos h1]
    · rw [if_neg h1, if_neg h1, ConfLib.wrap_small (by omega) (by omega), digit_at vec i hk]
      simp only [Option.bind_some]
      split <;> rfl
theorem right_zero : right n f d p r dr o s m fr t v ex vec slot cyc tx = 0 ↔ plain n f d p r dr o s m fr t = 0 ∧ D v (rounds n f d p r dr o s m fr t) = true ∧ vecOk n f d p r dr o s m fr t ex vec = true ∧ 0 ≤ slot ∧ slot ≤ t.length ∧ numOk m slot cyc tx = true ∧ tx.size ≤ 16 := by
  unfold right
  constructor
  · intro h
    split at h
    · rename_i hp
      split at h
      · rename_i hd
        split at h
        · rename_i hv
          split at h
          · omega
          · split at h
            · rename_i hn
              split at h
              · omega
              · exact ⟨hp, hd, hv, by omega, by omega, hn, by omega⟩
            · omega
        · omega
      · omega
    · rename_i hp
      exact absurd h hp
  · rintro ⟨h1, h2, h3, h4, h5, h6, h7⟩
    rw [if_pos h1, if_pos h2, if_pos h3, if_neg (by omega), if_pos h6, if_neg (by omega)]
theorem numOk_iff : numOk m slot cyc tx = true ↔ 0 ≤ cyc ∧ cyc < m ∧ (slot = 0 → cyc = 0 ∧ tx.toList = []) := by
  unfold numOk
  exact decide_eq_true_iff
theorem D_dig {s : ByteArray} {n : Int} (h : D s n = true) (i : Int) : -1 ≤ dig s i ∧ dig s i ≤ 2 ∧ (0 ≤ dig s i ↔ 0 ≤ i ∧ i < n) := by
  unfold D at h
  rw [Bool.and_eq_true] at h
  obtain ⟨h1, h2⟩ := h
  have h1 := of_decide_eq_true h1
  unfold dig
  by_cases h0 : i < 0
  · rw [if_pos h0]
    omega
  rw [if_neg h0]
  by_cases hs : i ≥ (s.size : Int)
  · rw [if_pos hs]
    omega
  rw [if_neg hs]
  obtain ⟨j, rfl⟩ := Int.eq_ofNat_of_zero_le (show 0 ≤ i by omega)
  have hj : j < s.size := by omega
  have hd := isd_bt s j hj
  have hall : packet_digits.isd (s[j]'hj) = true := by
    unfold packet_digits.all at h2
    exact List.all_eq_true.1 h2 _ (List.getElem_mem (l := s.data.toList) (by rw [data_length]; exact hj))
  rw [hall] at hd
  by_cases h3 : bt s (j : Int) < 48
  · rw [decide_eq_true h3] at hd
    cases hd
  · by_cases h4 : bt s (j : Int) > 50
    · rw [decide_eq_true h4, decide_eq_false h3] at hd
      cases hd
    · rw [if_neg h3, if_neg h4]
      omega
end
end Go.Proofs.Ytbfnkdgjcpcmbaa.PacketLib
