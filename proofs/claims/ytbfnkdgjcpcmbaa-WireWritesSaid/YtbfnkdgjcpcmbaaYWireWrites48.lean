import Derived.Test.YtbfnkdgjcpcmbaaYWireWrites23
import Derived.Laws.BitsAllLaws
set_option linter.unusedVariables false
set_option linter.unusedSimpArgs false
namespace Go.Proofs.Ytbfnkdgjcpcmbaa.CrcLib
open Go.RowKit Go.Proofs.Ytbfnkdgjcpcmbaa.X Go.Proofs.YtbfnkdgjcpcmbaaW.PrintWords
def g (r : Nat) : Nat := if r % 2 = 0 then r / 2 else (r / 2) ^^^ 3988292384
def gs : Nat → Nat → Nat
  | 0, r => r
  | d + 1, r => gs d (g r)
def st (s b : Nat) : Nat := gs 8 (s ^^^ b)
def run (s : Nat) (l : List UInt8) : Nat := l.foldl (fun s b => st s b.toNat) s
def crc (l : List UInt8) : Nat := run 4294967295 l ^^^ 4294967295
theorem xor_lt32 {a b : Nat} (ha : a < 4294967296) (hb : b < 4294967296) : a ^^^ b < 4294967296 := Nat.xor_lt_two_pow (n := 32) ha hb
theorem g_lt {r : Nat} (h : r < 4294967296) : g r < 4294967296 := by
  unfold g
  split
  · omega
  · exact xor_lt32 (by omega) (by omega)
theorem gs_lt : ∀ (d : Nat) {r : Nat}, r < 4294967296 → gs d r < 4294967296
  | 0, _, h => h
  | d + 1, _, h => gs_lt d (g_lt h)
theorem st_lt {s b : Nat} (hs : s < 4294967296) (hb : b < 4294967296) : st s b < 4294967296 := gs_lt 8 (xor_lt32 hs hb)
theorem run_lt : ∀ (l : List UInt8) {s : Nat}, s < 4294967296 → run s l < 4294967296
  | [], _, h => h
  | b :: l, s, h => run_lt l (st_lt h (by have := b.toNat_lt; omega))
theorem crc_lt (l : List UInt8) : crc l < 4294967296 := xor_lt32 (run_lt l (by omega)) (by omega)
theorem wrap_small {n : Int} (h0 : -9223372036854775808 ≤ n) (h1 : n ≤ 9223372036854775807) : wrap64 n = n := by
  unfold wrap64
  omega
theorem and_one {r : Nat} (h : r < 4294967296) : Go.bits .and .u32 (r : Int) 1 = ((r % 2 : Nat) : Int) := by
  have := u32_and_nat r 1 h (by omega)
  rw [Nat.and_one_is_mod] at this
  exact this
theorem next_loop (d : Nat) : ∀ (k r : Nat), r < 4294967296 → d ≤ 8 → d < k → crc_next.l0 k r ((8 - d : Nat) : Int) = some ((gs d r : Nat) : Int) := by
  induction d with
  | zero =>
    intro k r hr _ hk
    obtain ⟨k, rfl⟩ : ∃ m, k = m + 1 := ⟨k - 1, by omega⟩
    simp only [crc_next.l0]
    rw [if_neg (by omega)]
    rfl
  | succ d ih =>
    intro k r hr hd hk
    obtain ⟨k, rfl⟩ : ∃ m, k = m + 1 := ⟨k - 1, by omega⟩
    simp only [crc_next.l0]
    rw [if_pos (by omega), and_one hr, wrap_small (by omega) (by omega), show (((8 - (d + 1) : Nat) : Int) + 1) = ((8 - d : Nat) : Int) by omega]
    have e : ((r : Int) / 2) = ((r / 2 : Nat) : Int) := by omega
    rw [e]
    by_cases h : r % 2 = 0
    · rw [if_pos (by omega), ih k (r / 2) (by omega) (by omega) (by omega)]
      simp [gs, g, h]
    · rw [if_neg (by omega)]
      have e2 := u32_xor_nat (r / 2) 3988292384 (by omega) (by omega)
      rw [show ((3988292384 : Nat) : Int) = 3988292384 from rfl] at e2
      rw [e2, ih k _ (xor_lt32 (by omega) (by omega)) (by omega) (by omega)]
      simp [gs, g, h]
theorem next_at {k s b : Nat} (hs : s < 4294967296) (hb : b < 256) (hk : 8 < k) : crc_next.f k s b = some ((st s b : Nat) : Int) := by
  unfold crc_next.f
  have e : ((b : Int)) % 4294967296 = (b : Int) := by omega
  rw [e, u32_xor_nat s b hs (by omega)]
  exact next_loop 8 k _ (xor_lt32 hs (by omega)) (by omega) hk
theorem bt_nat (s : ByteArray) (i : Nat) (h : i < s.size) : bt s (i : Int) = ((s.data.toList[i]'(by rw [data_length]; exact h)).toNat : Int) := by
  unfold bt
  simp only [Int.toNat_natCast, dif_pos h]
  rfl
theorem drop_at (s : ByteArray) (i : Nat) (h : i < s.size) : s.data.toList.drop i = (s.data.toList[i]'(by rw [data_length]; exact h)) :: s.data.toList.drop (i + 1) := (List.drop_eq_getElem_cons (by rw [data_length]; exact h))
theorem sum_loop (a : ByteArray) (ha : a.size ≤ 140737488351240) (d : Nat) : ∀ (k s i : Nat), s < 4294967296 → i + d = a.size → d + 10 < k → crc_Sum.l0 k a s (a.size : Int) i = some ((run s (a.data.toList.drop i) ^^^ 4294967295 : Nat) : Int) := by
  induction d with
  | zero =>
    intro k s i hs hi hk
    obtain ⟨k, rfl⟩ : ∃ m, k = m + 1 := ⟨k - 1, by omega⟩
    simp only [crc_Sum.l0]
    rw [if_neg (by omega), List.drop_of_length_le (by rw [data_length]; omega)]
    have := u32_xor_nat 4294967295 s (by omega) hs
    rw [show ((4294967295 : Nat) : Int) = 4294967295 from rfl] at this
    rw [this, Nat.xor_comm]
    rfl
  | succ d ih =>
    intro k s i hs hi hk
    obtain ⟨k, rfl⟩ : ∃ m, k = m + 1 := ⟨k - 1, by omega⟩
    have hlt : i < a.size := by omega
    simp only [crc_Sum.l0]
    rw [if_pos (by omega), if_pos (by omega), if_pos (by omega), bt_nat a i hlt, next_at hs (UInt8.toNat_lt _) (by omega)]
    simp only [Option.bind_some]
    rw [wrap_small (by omega) (by omega), show ((i : Int) + 1) = ((i + 1 : Nat) : Int) by omega, ih k _ (i + 1) (st_lt hs (by have := UInt8.toNat_lt (a.data.toList[i]'(by rw [data_length]; exact hlt)); omega)) (by omega) (by omega), drop_at a i hlt]
    rfl
theorem sum_at (a : ByteArray) (ha : a.size ≤ 140737488351240) {k : Nat} (hk : a.size + 10 < k) : crc_Sum.f k a = some ((crc a.data.toList : Nat) : Int) := by
  unfold crc_Sum.f
  have := sum_loop a ha a.size k 4294967295 0 (by omega) (by omega) hk
  simpa [crc] using this
end Go.Proofs.Ytbfnkdgjcpcmbaa.CrcLib
