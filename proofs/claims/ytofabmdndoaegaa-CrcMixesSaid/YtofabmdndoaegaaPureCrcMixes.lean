/- The sum of what is theirs together is their sums together. -/
import Derived.Test.YtofabmdndoaegaaSCrcMixes
import Derived.Test.YtofabmdndoaegaaCrcLib4
set_option linter.unusedVariables false
set_option linter.unusedSimpArgs false
namespace Go.Proofs.Ytofabmdndoaegaa.crcMixes
open Go.RowKit Go.Proofs.Ytofabmdndoaegaa.X Go.Proofs.YtofabmdndoaegaaW.PrintWords Go.Proofs.Ytofabmdndoaegaa.Bytes Go.Proofs.Ytofabmdndoaegaa.CrcLib
theorem mixed_snoc : ∀ (l m n : List UInt8) (a b c : UInt8), l.length = m.length → l.length = n.length → mixed (l ++ [a]) (m ++ [b]) (n ++ [c]) = mixed l m n ++ [a ^^^ b ^^^ c]
  | [], [], [], _, _, _, _, _ => rfl
  | x :: l, y :: m, z :: n, a, b, c, h1, h2 => by
    show (x ^^^ y ^^^ z) :: mixed (l ++ [a]) (m ++ [b]) (n ++ [c]) = _
    rw [mixed_snoc l m n a b c (by simpa using h1) (by simpa using h2)]
    rfl
  | [], _ :: _, _, _, _, _, h, _ => by simp at h
  | [], [], _ :: _, _, _, _, _, h => by simp at h
  | _ :: _, [], _, _, _, _, h, _ => by simp at h
  | _ :: _, _ :: _, [], _, _, _, _, h => by simp at h
def nums (l : List UInt8) : List Int := l.map fun b => (b.toNat : Int)
theorem strOf_nums (l : List UInt8) : (strOfNums (nums l)).data.toList = l := by
  rw [strOfNums_data, nums, List.map_map]
  conv => rhs; rw [← List.map_id l]
  refine List.map_congr_left fun b _ => ?_
  simp
theorem take_succ {l : List UInt8} {i : Nat} (h : i < l.length) : l.take (i + 1) = l.take i ++ [l[i]] := by rw [List.take_succ_eq_append_getElem h]
theorem loop (a b c : ByteArray) (n : Nat) (ha : n ≤ a.size) (hb : n ≤ b.size) (hc : n ≤ c.size) (hn : n ≤ 60) (d : Nat) : ∀ (k i : Nat), i + d = n → d + 200 < k →
    bellwetherlaw02_CrcMixes.l0 k a b c (n : Int) (nums (mixed (a.data.toList.take i) (b.data.toList.take i) (c.data.toList.take i))) (i : Int) = some true := by
  have la : a.data.toList.length = a.size := data_length a
  have lb : b.data.toList.length = b.size := data_length b
  have lc : c.data.toList.length = c.size := data_length c
  have lm : ∀ (l m n : List UInt8), (mixed l m n).length ≤ l.length := by
    intro l
    induction l with
    | nil => intro m n; cases m <;> simp [mixed]
    | cons x l ih =>
      intro m n
      cases m with
      | nil => simp [mixed]
      | cons y m =>
        cases n with
        | nil => simp [mixed]
        | cons z n => simpa [mixed] using ih m n
  induction d with
  | zero =>
    intro k i hi hk
    obtain ⟨k, rfl⟩ : ∃ m, k = m + 1 := ⟨k - 1, by omega⟩
    obtain rfl : i = n := by omega
    have hm := lm (a.data.toList.take i) (b.data.toList.take i) (c.data.toList.take i)
    rw [List.length_take] at hm
    simp only [bellwetherlaw02_CrcMixes.l0]
    have hz : (strOfNums (nums (mixed (a.data.toList.take i) (b.data.toList.take i) (c.data.toList.take i)))).size ≤ 60 := by
      rw [size_list, strOf_nums]
      omega
    rw [if_neg (by omega), sum_at _ (by omega) (by omega)]
    simp only [Option.bind_some]
    rw [if_pos (by omega), if_pos (by omega), Int.toNat_natCast, sum_at _ (by rw [ByteArray.size_extract]; omega) (by rw [ByteArray.size_extract]; omega)]
    simp only [Option.bind_some]
    rw [if_pos (by omega), sum_at _ (by rw [ByteArray.size_extract]; omega) (by rw [ByteArray.size_extract]; omega)]
    simp only [Option.bind_some]
    rw [if_pos (by omega), sum_at _ (by rw [ByteArray.size_extract]; omega) (by rw [ByteArray.size_extract]; omega)]
    simp only [Option.bind_some]
    rw [strOf_nums, take_list, take_list, take_list, crc_mixed _ _ _ (by rw [List.length_take, List.length_take]; omega) (by rw [List.length_take, List.length_take]; omega)]
    rw [u32_xor_nat _ _ (crc_lt _) (crc_lt _), u32_xor_nat _ _ (xor_lt32 (crc_lt _) (crc_lt _)) (crc_lt _), if_pos rfl, known_at (by omega)]
    rfl
  | succ d ih =>
    intro k i hi hk
    obtain ⟨k, rfl⟩ : ∃ m, k = m + 1 := ⟨k - 1, by omega⟩
    have hm := lm (a.data.toList.take i) (b.data.toList.take i) (c.data.toList.take i)
    rw [List.length_take] at hm
    simp only [bellwetherlaw02_CrcMixes.l0]
    rw [if_pos (by omega), if_pos (by omega), if_pos (by omega), if_pos (by omega), if_pos (by omega), if_pos (by rw [nums, List.length_map]; omega)]
    rw [Bytes.bt_nat a i (by omega), Bytes.bt_nat b i (by omega), Bytes.bt_nat c i (by omega), Bytes.wrap_small (by omega) (by omega), show ((i : Int) + 1) = ((i + 1 : Nat) : Int) by omega]
    have hx := UInt8.toNat_lt (a.data.toList[i]'(by omega))
    have hy := UInt8.toNat_lt (b.data.toList[i]'(by omega))
    have hw := UInt8.toNat_lt (c.data.toList[i]'(by omega))
    have hxy : (a.data.toList[i]'(by omega)).toNat ^^^ (b.data.toList[i]'(by omega)).toNat < 256 := Nat.xor_lt_two_pow (n := 8) hx hy
    rw [u8_xor_nat _ _ hx hy, u8_xor_nat _ _ hxy hw]
    have e : nums (mixed (a.data.toList.take i) (b.data.toList.take i) (c.data.toList.take i)) ++ [(((a.data.toList[i]'(by omega)).toNat ^^^ (b.data.toList[i]'(by omega)).toNat ^^^ (c.data.toList[i]'(by omega)).toNat : Nat) : Int)] = nums (mixed (a.data.toList.take (i + 1)) (b.data.toList.take (i + 1)) (c.data.toList.take (i + 1))) := by
      rw [take_succ (by omega), take_succ (by omega), take_succ (by omega), mixed_snoc _ _ _ _ _ _ (by rw [List.length_take, List.length_take]; omega) (by rw [List.length_take, List.length_take]; omega)]
      simp [nums, UInt8.toNat_xor]
    rw [e]
    exact ih k (i + 1) (by omega) (by omega)
theorem pure : Pure := by
  intro a b c _ _ _
  refine ⟨500, ?_⟩
  unfold bellwetherlaw02_CrcMixes.f
  have h : ∃ n : Nat, mn (mn (mn (a.size : Int) (b.size : Int)) (c.size : Int)) 60 = (n : Int) ∧ n ≤ a.size ∧ n ≤ b.size ∧ n ≤ c.size ∧ n ≤ 60 := by
    refine ⟨min (min (min a.size b.size) c.size) 60, ?_, by omega, by omega, by omega, by omega⟩
    unfold mn
    omega
  obtain ⟨n, e, h1, h2, h3, h4⟩ := h
  rw [e]
  exact loop a b c n h1 h2 h3 h4 n 500 0 (by omega) (by omega)
end Go.Proofs.Ytofabmdndoaegaa.crcMixes
