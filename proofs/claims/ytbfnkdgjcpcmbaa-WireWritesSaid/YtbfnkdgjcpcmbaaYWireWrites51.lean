import Derived.Test.YtbfnkdgjcpcmbaaYWireWrites49
import Derived.Test.YtbfnkdgjcpcmbaaYWireWrites50
set_option maxHeartbeats 1000000
set_option linter.unusedVariables false
set_option linter.unusedSimpArgs false
namespace Go.Proofs.Ytbfnkdgjcpcmbaa.CrcLib
open Go.RowKit Go.Proofs.Ytbfnkdgjcpcmbaa.X Go.Proofs.YtbfnkdgjcpcmbaaW.PrintWords Go.Proofs.Ytbfnkdgjcpcmbaa.Bytes
theorem ref_bits (d : Nat) : ∀ (k r i : Nat) (a : ByteArray), r < 4294967296 → d ≤ 8 → d < k → r02Sum.l1 k a r i ((8 - d : Nat) : Int) = r02Sum.l0 (k - d - 1) a ((gs d r : Nat) : Int) (wrap64 ((i : Int) + 1)) := by
  induction d with
  | zero =>
    intro k r i a hr _ hk
    obtain ⟨k, rfl⟩ : ∃ m, k = m + 1 := ⟨k - 1, by omega⟩
    simp only [r02Sum.l1]
    rw [if_neg (by omega)]
    rfl
  | succ d ih =>
    intro k r i a hr hd hk
    obtain ⟨k, rfl⟩ : ∃ m, k = m + 1 := ⟨k - 1, by omega⟩
    simp only [r02Sum.l1]
    rw [if_pos (by omega), and_one hr, wrap_small (n := ((8 - (d + 1) : Nat) : Int) + 1) (by omega) (by omega), show (((8 - (d + 1) : Nat) : Int) + 1) = ((8 - d : Nat) : Int) by omega]
    have e : ((r : Int) / 2) = ((r / 2 : Nat) : Int) := by omega
    rw [e, show k + 1 - (d + 1) - 1 = k - d - 1 by omega]
    by_cases h : r % 2 = 0
    · rw [if_neg (by omega), ih k (r / 2) i a (by omega) (by omega) (by omega)]
      simp [gs, g, h]
    · rw [if_pos (by omega)]
      have e2 := u32_xor_nat (r / 2) 3988292384 (by omega) (by omega)
      rw [show ((3988292384 : Nat) : Int) = 3988292384 from rfl] at e2
      rw [e2, ih k _ i a (xor_lt32 (by omega) (by omega)) (by omega) (by omega)]
      simp [gs, g, h]
theorem ref_loop (a : ByteArray) (ha : a.size ≤ 140737488351240) (d : Nat) : ∀ (k s i : Nat), s < 4294967296 → i + d = a.size → 10 * d < k → r02Sum.l0 k a s i = some ((run s (a.data.toList.drop i) ^^^ 4294967295 : Nat) : Int) := by
  induction d with
  | zero =>
    intro k s i hs hi hk
    obtain ⟨k, rfl⟩ : ∃ m, k = m + 1 := ⟨k - 1, by omega⟩
    simp only [r02Sum.l0]
    rw [if_neg (by omega), List.drop_of_length_le (by rw [data_length]; omega)]
    have := u32_xor_nat s 4294967295 hs (by omega)
    rw [show ((4294967295 : Nat) : Int) = 4294967295 from rfl] at this
    rw [this]
    rfl
  | succ d ih =>
    intro k s i hs hi hk
    obtain ⟨k, rfl⟩ : ∃ m, k = m + 1 := ⟨k - 1, by omega⟩
    have hlt : i < a.size := by omega
    have hb := UInt8.toNat_lt (a.data.toList[i]'(by rw [data_length]; exact hlt))
    simp only [r02Sum.l0]
    rw [if_pos (by omega), if_pos (by omega), CrcLib.bt_nat a i hlt]
    have e : ((a.data.toList[i]'(by rw [data_length]; exact hlt)).toNat : Int) % 4294967296 = ((a.data.toList[i]'(by rw [data_length]; exact hlt)).toNat : Int) := by omega
    have x8 := ref_bits 8 k (s ^^^ (a.data.toList[i]'(by rw [data_length]; exact hlt)).toNat) i a (xor_lt32 hs (by omega)) (by omega) (by omega)
    rw [e, u32_xor_nat _ _ hs (by omega)]
    rw [show ((8 - 8 : Nat) : Int) = 0 from rfl] at x8
    rw [x8, wrap_small (by omega) (by omega), show ((i : Int) + 1) = ((i + 1 : Nat) : Int) by omega]
    have x9 := ih (k - 8 - 1) (st s (a.data.toList[i]'(by rw [data_length]; exact hlt)).toNat) (i + 1) (st_lt hs (by omega)) (by omega) (by omega)
    rw [CrcLib.drop_at a i hlt]
    exact x9
theorem ref_sum_at (a : ByteArray) (ha : a.size ≤ 140737488351240) {k : Nat} (hk : 10 * a.size < k) : r02Sum.f k a = some ((crc a.data.toList : Nat) : Int) := by
  unfold r02Sum.f
  have := ref_loop a ha a.size k 4294967295 0 (by omega) (by omega) hk
  simpa [crc] using this
theorem w0 : wrap64 (256 * 1) = 256 := by unfold wrap64; omega
theorem w1 : wrap64 (256 * 256) = 65536 := by unfold wrap64; omega
theorem w2 : wrap64 (256 * 65536) = 16777216 := by unfold wrap64; omega
theorem w3 : wrap64 (256 * 16777216) = 4294967296 := by unfold wrap64; omega
theorem d0 {c : Nat} (h : c < 4294967296) : wrap64 ((c / 256 : Nat) : Int) = ((c / 256 : Nat) : Int) := by unfold wrap64; omega
theorem d1 {c : Nat} (h : c < 4294967296) : wrap64 ((c / 256 / 256 : Nat) : Int) = ((c / 256 / 256 : Nat) : Int) := by unfold wrap64; omega
theorem d2 {c : Nat} (h : c < 4294967296) : wrap64 ((c / 256 / 256 / 256 : Nat) : Int) = ((c / 256 / 256 / 256 : Nat) : Int) := by unfold wrap64; omega
theorem m256 (x : Nat) : ((x % 256 : Nat) : Int) % 256 = ((x % 256 : Nat) : Int) := by omega
theorem tmod_nat (x : Nat) : Int.tmod (x : Int) 256 = ((x % 256 : Nat) : Int) := by
  rw [Int.tmod_eq_emod_of_nonneg (by omega)]
  omega
theorem tdiv_nat (x : Nat) : Int.tdiv (x : Int) 256 = ((x / 256 : Nat) : Int) := by
  rw [Int.tdiv_eq_ediv_of_nonneg (by omega)]
  omega
theorem put_at (c : Nat) (hc : c < 4294967296) {k : Nat} (hk : 20 < k) : r01Put.f k (c : Int) 4 = some (⟨(four c).toArray⟩, 0) := by
  obtain ⟨k, rfl⟩ : ∃ m, k = m + 9 := ⟨k - 9, by omega⟩
  unfold r01Put.f
  rw [if_neg (by omega), decide_eq_false (by omega)]
  have hroom : r01room.f (k + 8) 4 = some 4294967296 := by
    unfold r01room.f
    simp only [r01room.l0, w0, w1, w2, w3, w01, w12, w23, w34]
    rw [if_pos (by omega), if_pos (by omega), if_pos (by omega), if_pos (by omega), if_neg (by omega)]
  simp only [r01Put.j0]
  rw [if_neg (by decide), if_neg (by omega), hroom]
  simp only [Option.bind_some, r01Put.j1]
  rw [decide_eq_false (by omega), if_neg (by decide)]
  simp only [r01Put.l0, r01Byte.f, Option.bind_some, tmod_nat, tdiv_nat, d0 hc, d1 hc, d2 hc, w01, w12, w23, w34, m256]
  have z : ∀ xs : List Int, (strOfNums xs).size = xs.length := strOfNums_size
  have z0 : (⟨#[]⟩ : ByteArray).size = 0 := rfl
  rw [if_pos (by omega), if_pos (by simp [z, z0]), if_pos (by omega), if_pos (by simp [z, z0]), if_pos (by omega), if_pos (by simp [z, z0]), if_pos (by omega), if_pos (by simp [z, z0]), if_neg (by omega)]
  refine congrArg (fun b => some (b, (0 : Int))) (ext ?_)
  rw [append_list, append_list, append_list, append_list, ex]
  simp only [strOfNums_data, four, List.map_cons, List.map_nil, Int.toNat_natCast, List.nil_append, List.cons_append]
theorem tail_at (a : ByteArray) (ha : a.size ≤ 140737488351240) {k : Nat} (hk : 10 * a.size + 30 < k) : r02tail.f k a = some ⟨(four (crc a.data.toList)).toArray⟩ := by
  unfold r02tail.f
  have hc := crc_lt a.data.toList
  rw [ref_sum_at a ha (by omega)]
  simp only [Option.bind_some]
  rw [wrap_small (by omega) (by omega), put_at _ hc (by omega)]
  rfl
theorem ref_seal_at (a : ByteArray) (ha : a.size ≤ 140737488351240) {k : Nat} (hk : 10 * a.size + 30 < k) : r02Seal.f k a = some ⟨(sealed a.data.toList).toArray⟩ := by
  unfold r02Seal.f
  rw [tail_at a ha hk]
  simp only [Option.bind_some]
  rw [if_pos (by rw [size_list ⟨(four (crc a.data.toList)).toArray⟩, ex, four_length]; omega)]
  refine congrArg some (ext ?_)
  rw [append_list, ex, ex, sealed]
end Go.Proofs.Ytbfnkdgjcpcmbaa.CrcLib
