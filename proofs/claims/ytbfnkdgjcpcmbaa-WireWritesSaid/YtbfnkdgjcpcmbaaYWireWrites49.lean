import Derived.Test.YtbfnkdgjcpcmbaaYWireWrites48
import Derived.Test.YtbfnkdgjcpcmbaaYWireWrites44
import Derived.Test.YtbfnkdgjcpcmbaaYWireWrites33
set_option maxHeartbeats 1000000
set_option linter.unusedVariables false
set_option linter.unusedSimpArgs false
namespace Go.Proofs.Ytbfnkdgjcpcmbaa.CrcLib
open Go.RowKit Go.Proofs.Ytbfnkdgjcpcmbaa.X Go.Proofs.YtbfnkdgjcpcmbaaW.PrintWords Go.Proofs.Ytbfnkdgjcpcmbaa.Bytes
def four (c : Nat) : List UInt8 := [UInt8.ofNat (c % 256), UInt8.ofNat (c / 256 % 256), UInt8.ofNat (c / 256 / 256 % 256), UInt8.ofNat (c / 256 / 256 / 256 % 256)]
def sealed (l : List UInt8) : List UInt8 := l ++ four (crc l)
theorem four_length (c : Nat) : (four c).length = 4 := rfl
theorem strOf_four (c : Nat) : (strOfNums [((c % 256 : Nat) : Int), ((c / 256 % 256 : Nat) : Int), ((c / 256 / 256 % 256 : Nat) : Int), ((c / 256 / 256 / 256 % 256 : Nat) : Int)]).data.toList = four c := by
  simp only [strOfNums_data, four, List.map_cons, List.map_nil, Int.toNat_natCast]
theorem seal_at (a : ByteArray) (ha : a.size ≤ 140737488351240) {k : Nat} (hk : a.size + 10 < k) : crc_Seal.f k a = some ⟨(sealed a.data.toList).toArray⟩ := by
  obtain ⟨k, rfl⟩ : ∃ m, k = m + 5 := ⟨k - 5, by omega⟩
  unfold crc_Seal.f
  rw [sum_at a ha hk]
  simp only [Option.bind_some]
  have hc := crc_lt a.data.toList
  generalize hcc : crc a.data.toList = c at *
  have e0 : (c : Int) % 256 = ((c % 256 : Nat) : Int) := by omega
  have e1 : (c : Int) / 256 % 256 = ((c / 256 % 256 : Nat) : Int) := by omega
  have e2 : (c : Int) / 256 / 256 % 256 = ((c / 256 / 256 % 256 : Nat) : Int) := by omega
  have e3 : (c : Int) / 256 / 256 / 256 % 256 = ((c / 256 / 256 / 256 % 256 : Nat) : Int) := by omega
  simp only [crc_Seal.l0]
  rw [if_pos (by omega), if_pos (by simp), wrap_small (by omega) (by omega), if_pos (by omega), if_pos (by simp), wrap_small (by omega) (by omega), if_pos (by omega), if_pos (by simp), wrap_small (by omega) (by omega), if_pos (by omega), if_pos (by simp), wrap_small (by omega) (by omega), if_neg (by omega)]
  simp only [List.nil_append, List.cons_append]
  rw [e0, e1, e2, e3, if_pos (by rw [strOfNums_size]; simp; omega)]
  refine congrArg some (ext ?_)
  rw [append_list, strOf_four, ex, sealed, hcc]
def val (b0 b1 b2 b3 : Nat) : Nat := b0 + 256 * b1 + 65536 * b2 + 16777216 * b3
theorem w01 : wrap64 ((0 : Int) + 1) = 1 := by unfold wrap64; omega
theorem w12 : wrap64 ((1 : Int) + 1) = 2 := by unfold wrap64; omega
theorem w23 : wrap64 ((2 : Int) + 1) = 3 := by unfold wrap64; omega
theorem w34 : wrap64 ((3 : Int) + 1) = 4 := by unfold wrap64; omega
end Go.Proofs.Ytbfnkdgjcpcmbaa.CrcLib
