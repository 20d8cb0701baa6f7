import Derived.Test.YtbfnkdgjcpcmbaaYWireReads46
import Derived.Test.YtbfnkdgjcpcmbaaYWireReads40
set_option maxHeartbeats 1000000
set_option linter.unusedVariables false
set_option linter.unusedSimpArgs false
namespace Go.Proofs.Ytbfnkdgjcpcmbaa.CrcLib
open Go.RowKit Go.Proofs.Ytbfnkdgjcpcmbaa.X Go.Proofs.YtbfnkdgjcpcmbaaW.PrintWords Go.Proofs.Ytbfnkdgjcpcmbaa.Bytes
def four (c : Nat) : List UInt8 := [UInt8.ofNat (c % 256), UInt8.ofNat (c / 256 % 256), UInt8.ofNat (c / 256 / 256 % 256), UInt8.ofNat (c / 256 / 256 / 256 % 256)]
def sealed (l : List UInt8) : List UInt8 := l ++ four (crc l)
def val (b0 b1 b2 b3 : Nat) : Nat := b0 + 256 * b1 + 65536 * b2 + 16777216 * b3
theorem or_at {x y : Nat} {i : Nat} (hx : x < 2 ^ i) (hy : y < 256) (hi : i ≤ 24) : Go.bits .or .i64 (x : Int) (shl .i64 (y : Int) (i : Int)) = ((x + y * 2 ^ i : Nat) : Int) := by
  have h1 : 2 ^ i ≤ 2 ^ 24 := Nat.pow_le_pow_right (by omega) hi
  have h2 : y * 2 ^ i ≤ 255 * 2 ^ 24 := Nat.mul_le_mul (by omega) h1
  have h3 : shl .i64 (y : Int) (i : Int) = ((y * 2 ^ i : Nat) : Int) := by
    unfold shl
    simp only [Int.toNat_natCast, IntKind.bits]
    rw [Nat.min_eq_left (by omega)]
    have : ((y : Int) * 2 ^ i) = ((y * 2 ^ i : Nat) : Int) := by push_cast; rfl
    rw [this]
    simp [IntKind.wrap, IntKind.bits, IntKind.signed]
    omega
  rw [h3]
  have h4 : x ||| y * 2 ^ i = x + y * 2 ^ i := by
    have := Nat.shiftLeft_add_eq_or_of_lt hx y
    rw [Nat.shiftLeft_eq] at this
    rw [Nat.or_comm, ← this, Nat.add_comm]
  have h5 : ∀ a b : Nat, a < 2 ^ 62 → b < 2 ^ 62 → Go.bits .or .i64 (a : Int) (b : Int) = ((a ||| b : Nat) : Int) := by
    intro a b ha hb
    exact (bits_nat .i64 62 (by decide) (fun n h0 h1 => by rw [IntKind.wrap_i64]; omega) a b ha hb).2
  rw [h5 _ _ (by omega) (by omega), h4]
theorem w_0 {n : Nat} (h : n ≤ 140737488351240) : wrap64 ((n : Int) + 0) = ((n : Nat) : Int) := by unfold wrap64; omega
theorem w_1 {n : Nat} (h : n ≤ 140737488351240) : wrap64 ((n : Int) + 1) = ((n + 1 : Nat) : Int) := by unfold wrap64; omega
theorem w_2 {n : Nat} (h : n ≤ 140737488351240) : wrap64 ((n : Int) + 2) = ((n + 2 : Nat) : Int) := by unfold wrap64; omega
theorem w_3 {n : Nat} (h : n ≤ 140737488351240) : wrap64 ((n : Int) + 3) = ((n + 3 : Nat) : Int) := by unfold wrap64; omega
theorem w01 : wrap64 ((0 : Int) + 1) = 1 := by unfold wrap64; omega
theorem w12 : wrap64 ((1 : Int) + 1) = 2 := by unfold wrap64; omega
theorem w23 : wrap64 ((2 : Int) + 1) = 3 := by unfold wrap64; omega
theorem w34 : wrap64 ((3 : Int) + 1) = 4 := by unfold wrap64; omega
theorem s_0 : wrap64 ((8 : Int) * 0) = ((0 : Nat) : Int) := by unfold wrap64; omega
theorem s_1 : wrap64 ((8 : Int) * 1) = ((8 : Nat) : Int) := by unfold wrap64; omega
theorem s_2 : wrap64 ((8 : Int) * 2) = ((16 : Nat) : Int) := by unfold wrap64; omega
theorem s_3 : wrap64 ((8 : Int) * 3) = ((24 : Nat) : Int) := by unfold wrap64; omega
theorem w_byte {n : Nat} (h : n < 256) : wrap64 (n : Int) = (n : Int) := by unfold wrap64; omega
theorem get_at (a : ByteArray) (n : Nat) (hn : a.size = n + 4) (ha : a.size ≤ 140737488351240) {k : Nat} (hk : 20 < k) :
    num_Get.f k a (n : Int) 4 = some (((val (a.data.toList.getD n 0).toNat (a.data.toList.getD (n + 1) 0).toNat (a.data.toList.getD (n + 2) 0).toNat (a.data.toList.getD (n + 3) 0).toNat : Nat) : Int), 0) := by
  obtain ⟨k, rfl⟩ : ∃ m, k = m + 7 := ⟨k - 7, by omega⟩
  have hn2 : n ≤ 140737488351240 := by omega
  unfold num_Get.f num_fits.f
  rw [if_pos (by omega)]
  simp only [Option.bind_some]
  rw [if_pos (by decide), decide_eq_false (by omega)]
  simp only [num_Get.j0, num_Get.j1, num_Get.l0]
  rw [if_neg (by decide), if_neg (by omega), wrap_small (by omega) (by omega), decide_eq_false (by omega), if_neg (by decide)]
  have b0 := (a.data.toList.getD n 0).toNat_lt
  have b1 := (a.data.toList.getD (n + 1) 0).toNat_lt
  have b2 := (a.data.toList.getD (n + 2) 0).toNat_lt
  have b3 := (a.data.toList.getD (n + 3) 0).toNat_lt
  simp only [w01, w12, w23, w34, w_0 hn2, w_1 hn2, w_2 hn2, w_3 hn2, s_0, s_1, s_2, s_3]
  rw [if_pos (by omega), if_pos (by omega), if_pos (by omega), if_pos (by omega), if_pos (by omega), if_pos (by omega), if_pos (by omega), if_pos (by omega), if_pos (by omega), if_pos (by omega), if_pos (by omega), if_pos (by omega), if_pos (by omega), if_pos (by omega), if_pos (by omega), if_pos (by omega), if_neg (by omega)]
  rw [bt_list a n (by omega), bt_list a (n + 1) (by omega), bt_list a (n + 2) (by omega), bt_list a (n + 3) (by omega)]
  generalize (a.data.toList.getD n 0).toNat = x0 at *
  generalize (a.data.toList.getD (n + 1) 0).toNat = x1 at *
  generalize (a.data.toList.getD (n + 2) 0).toNat = x2 at *
  generalize (a.data.toList.getD (n + 3) 0).toNat = x3 at *
  rw [w_byte b0, w_byte b1, w_byte b2, w_byte b3]
  have z := or_at (x := 0) (y := x0) (i := 0) (by omega) b0 (by omega)
  rw [show ((0 : Nat) : Int) = 0 from rfl] at z
  rw [show ((0 : Nat) : Int) = 0 from rfl, z, or_at (by omega) b1 (by omega), or_at (by omega) b2 (by omega), or_at (by omega) b3 (by omega)]
  congr 2
  unfold val
  omega
theorem val_four {c : Nat} (hc : c < 4294967296) {b0 b1 b2 b3 : UInt8} : val b0.toNat b1.toNat b2.toNat b3.toNat = c ↔ [b0, b1, b2, b3] = four c := by
  have h0 := b0.toNat_lt
  have h1 := b1.toNat_lt
  have h2 := b2.toNat_lt
  have h3 := b3.toNat_lt
  have key : ∀ (b : UInt8) (n : Nat), n < 256 → (b = UInt8.ofNat n ↔ b.toNat = n) := fun b n hn => by
    rw [← UInt8.toNat_inj, UInt8.toNat_ofNat']
    rw [Nat.mod_eq_of_lt (by omega)]
  simp only [four, List.cons.injEq, and_true]
  rw [key _ _ (by omega), key _ _ (by omega), key _ _ (by omega), key _ _ (by omega)]
  unfold val
  constructor
  · intro h
    omega
  · intro h
    omega
end Go.Proofs.Ytbfnkdgjcpcmbaa.CrcLib
