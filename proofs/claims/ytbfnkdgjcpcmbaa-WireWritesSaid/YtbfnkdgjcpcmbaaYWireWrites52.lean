import Derived.Test.YtbfnkdgjcpcmbaaYWireWrites47
import Derived.Test.YtbfnkdgjcpcmbaaYWireWrites51
set_option linter.unusedVariables false
set_option linter.unusedSimpArgs false
namespace Go.Proofs.Ytbfnkdgjcpcmbaa.WireLib
open Go.RowKit Go.Proofs.Ytbfnkdgjcpcmbaa.X Go.Proofs.YtbfnkdgjcpcmbaaW.PrintWords Go.Proofs.Ytbfnkdgjcpcmbaa.ConfLib Go.Proofs.Ytbfnkdgjcpcmbaa.Bytes Go.Proofs.Ytbfnkdgjcpcmbaa.WireMath
theorem pckN_range : ∀ (m : Nat) (t : List UInt8), pckN m t = (List.range m).map fun j => UInt8.ofNat (pv ((t.drop (4 * j)).take 4))
  | 0, _ => rfl
  | m + 1, t => by
    rw [List.range_succ_eq_map, List.map_cons, List.map_map, pckN, pckN_range m]
    rw [List.cons.injEq]
    refine ⟨rfl, List.map_congr_left fun j _ => ?_⟩
    simp only [Function.comp, List.drop_drop]
    rw [show 4 + 4 * j = 4 * (j + 1) by omega]
theorem take_cons {l : List UInt8} {i d : Nat} (h : i < l.length) : (l.drop i).take (d + 1) = l[i] :: (l.drop (i + 1)).take d := by
  rw [List.drop_eq_getElem_cons h, List.take_succ_cons]
theorem cv_at (s : ByteArray) (hd : Dg s.data.toList) (hi : Nat) (hh : hi ≤ s.size) (q : Nat) : q ≤ hi → wire_writer_digits.cv s hi q = ((pv ((s.data.toList.drop (hi - q)).take q) : Nat) : Int) := by
  induction q with
  | zero => intro _; simp [wire_writer_digits.cv, pv]
  | succ q ih =>
    intro hq
    have hl : hi - 1 - q < s.size := by omega
    have hl' : hi - (q + 1) < s.data.toList.length := by rw [data_length]; omega
    simp only [wire_writer_digits.cv]
    rw [ih (by omega), bt_nat s _ hl, take_cons hl', show hi - (q + 1) + 1 = hi - q by omega]
    have e : s.data.toList[hi - 1 - q]'(by rw [data_length]; omega) = s.data.toList[hi - (q + 1)]'hl' := by congr 1; omega
    have := hd (s.data.toList[hi - (q + 1)]'hl') (List.getElem_mem hl')
    rw [e]
    simp only [pv]
    omega
theorem pk_at (s : ByteArray) (hd : Dg s.data.toList) : (wire_writer_digits.pk s ((s.size + 3) / 4)).map (fun n => UInt8.ofNat n.toNat) = pck s.data.toList := by
  unfold wire_writer_digits.pk pck
  rw [pckN_range, List.map_map, data_length]
  refine List.map_congr_left fun j hj => ?_
  have hj := List.mem_range.1 hj
  simp only [Function.comp]
  rw [cv_at s hd _ (by omega) _ (by omega), Int.toNat_natCast, show min (4 * j + 4) s.size - (min (4 * j + 4) s.size - 4 * j) = 4 * j by omega]
  congr 2
  rw [List.take_eq_take_iff, List.length_drop, data_length]
  omega
theorem byte_int {x : Int} (h0 : 0 ≤ x) (h1 : x < 256) : UInt8.ofNat (x % 256).toNat = UInt8.ofNat x.toNat := by rw [Int.emod_eq_of_lt h0 h1]
theorem vb_at {ex : Nat} (vec : ByteArray) (he : ex < 256) (hd : ex ≠ 0 → Dg vec.data.toList) : (wire_packetWriter_vector.vb ex vec).map (fun n => UInt8.ofNat n.toNat) = vecL ex vec.data.toList := by
  unfold wire_packetWriter_vector.vb vecL
  by_cases h : ex = 0
  · rw [if_pos (by omega), if_pos h]
    rfl
  · rw [if_neg (by omega), if_neg h, List.map_append, pk_at vec (hd h)]
    simp only [List.map_cons, List.map_nil, List.cons_append, List.nil_append]
    rw [byte_int (by omega) (by omega), Int.toNat_natCast]
theorem bytesOf_at (s : ByteArray) : (bytesOf s).map (fun n => UInt8.ofNat n.toNat) = s.data.toList := by
  simp [bytesOf, Function.comp_def]
theorem mb_at {slot cyc : Nat} (tx : ByteArray) (hs : slot < 256) (hc : cyc < 256) (ht : tx.size < 256) : (wire_packetWriter_message.mb slot cyc tx).map (fun n => UInt8.ofNat n.toNat) = msgL slot cyc tx.data.toList := by
  unfold wire_packetWriter_message.mb msgL
  by_cases h : slot = 0
  · rw [if_pos (by omega), if_pos h]
    rfl
  · rw [if_neg (by omega), if_neg h, List.map_append, bytesOf_at]
    simp only [List.map_cons, List.map_nil, List.cons_append, List.nil_append]
    rw [byte_int (by omega) (by omega), byte_int (by omega) (by omega), byte_int (by omega) (by omega), Int.toNat_natCast, Int.toNat_natCast, Int.toNat_natCast, data_length]
theorem tag_at (v : ByteArray) (ex : Nat) (vec : ByteArray) (slot : Nat) (cyc : Int) (tx : ByteArray) : wire_tag.f v ex vec slot cyc tx = some ((tagN ex slot : Nat) : Int) := by
  unfold wire_tag.f tagN
  by_cases h : ex = 0
  · by_cases h' : slot = 0
    · rw [if_pos (by omega), if_pos (by omega), if_pos h, if_pos h']
      rfl
    · rw [if_pos (by omega), if_neg (by omega), if_pos h, if_neg h']
      decide +kernel
  · by_cases h' : slot = 0
    · rw [if_neg (by omega), if_pos (by omega), if_neg h, if_pos h']
      decide +kernel
    · rw [if_neg (by omega), if_neg (by omega), if_neg h, if_neg h']
      decide +kernel
theorem body_at {v : ByteArray} {ex : Nat} {vec : ByteArray} {slot cyc : Nat} {tx : ByteArray} {R B : Nat} (h : CanBe R B v.data.toList ex vec.data.toList slot cyc tx.data.toList) :
    (strOfNums (wire_Encode.body (tagN ex slot : Nat) v ex vec slot cyc tx)).data.toList = PL v.data.toList ex vec.data.toList slot cyc tx.data.toList := by
  rw [strOfNums_data]
  unfold wire_Encode.body PL
  have ht := h.tx_lt
  rw [data_length] at ht
  have hg := tagN_lt ex slot
  rw [List.map_append, List.map_append, List.map_append, pk_at v h.vd, vb_at vec h.ex_lt (fun q => (h.e1 q).2), mb_at tx h.slot_lt h.cyc_lt ht]
  simp only [List.map_cons, List.map_nil, List.cons_append, List.nil_append, List.append_assoc]
  rw [byte_int (by omega) (by omega), Int.toNat_natCast]
theorem byte_at (n : Nat) : r01Byte.f (n : Int) = some ⟨#[UInt8.ofNat n]⟩ := by
  unfold r01Byte.f
  refine congrArg some (ext ?_)
  rw [strOfNums_data]
  simp only [List.map_cons, List.map_nil]
  rw [show ((n : Int) % 256).toNat = n % 256 by omega]
  refine congrArg (fun x => [x]) (UInt8.toNat_inj.1 ?_)
  rw [UInt8.toNat_ofNat', UInt8.toNat_ofNat']
  omega
theorem one_size (x : UInt8) : (⟨#[x]⟩ : ByteArray).size = 1 := rfl
theorem push_list (out : ByteArray) (x : UInt8) : (out ++ (⟨#[x]⟩ : ByteArray)).data.toList = out.data.toList ++ [x] := by rw [append_list]
theorem pack_l1 (s : ByteArray) (hs : s.size ≤ 1000) (hd : Dg s.data.toList) (d : Nat) : ∀ (k i x n w : Nat) (out : ByteArray), x + d = min (i + 4) s.size → i ≤ x → n < w → w * 4 ^ d ≤ 256 → out.size ≤ 1000 → d < k →
    r11pack.l1 k s out i n w x = r11pack.l0 (k - d - 1) s (out ++ ⟨#[UInt8.ofNat (n + w * pv ((s.data.toList.drop x).take d))]⟩) ((i + 4 : Nat) : Int) := by
  induction d with
  | zero =>
    intro k i x n w out hx hix hn hw ho hk
    obtain ⟨k, rfl⟩ : ∃ m, k = m + 1 := ⟨k - 1, by omega⟩
    have e : wrap64 ((i : Int) + 4) = ((i + 4 : Nat) : Int) := by rw [ConfLib.wrap_small (by omega) (by omega)]; rfl
    have ho : out.size + (⟨#[UInt8.ofNat n]⟩ : ByteArray).size ≤ 9223372036854775807 := by rw [one_size]; omega
    simp only [r11pack.l1, byte_at, Option.bind_some]
    rw [e, if_pos ho]
    by_cases h : (x : Int) < ((i + 4 : Nat) : Int)
    · rw [if_pos h, if_neg (by omega)]
      simp [pv]
    · rw [if_neg h]
      simp [pv]
  | succ d ih =>
    intro k i x n w out hx hix hn hw ho hk
    obtain ⟨k, rfl⟩ : ∃ m, k = m + 1 := ⟨k - 1, by omega⟩
    have hl : x < s.data.toList.length := by rw [data_length]; omega
    have hb := hd _ (List.getElem_mem hl)
    have hw1 : w * 4 ≤ 256 := by
      have : w * 4 ≤ w * 4 ^ (d + 1) := Nat.mul_le_mul_left w (by rw [Nat.pow_succ]; have := Nat.pow_pos (n := d) (show 0 < 4 by decide); omega)
      omega
    simp only [r11pack.l1]
    rw [ConfLib.wrap_small (n := (i : Int) + 4) (by omega) (by omega), if_pos (by omega), if_pos (by omega), if_pos (by omega), bt_nat s x (by omega), take_cons hl]
    simp only [pv]
    generalize (s.data.toList[x]'hl).toNat = b at *
    obtain ⟨g, rfl⟩ : ∃ g, b = g + 48 := ⟨b - 48, by omega⟩
    have hg : g ≤ 3 := by omega
    have hwg : w * g ≤ w * 3 := Nat.mul_le_mul_left w hg
    have e1 : (((g + 48 : Nat) : Int) - 48) % 256 = (g : Int) := by omega
    rw [e1, show (w : Int) * (g : Int) = ((w * g : Nat) : Int) by push_cast; rfl, ConfLib.wrap_small (n := ((w * g : Nat) : Int)) (by omega) (by omega), ConfLib.wrap_small (by omega) (by omega), ConfLib.wrap_small (by omega) (by omega), ConfLib.wrap_small (by omega) (by omega)]
    rw [show (n : Int) + ((w * g : Nat) : Int) = ((n + w * g : Nat) : Int) by push_cast; rfl, show (4 : Int) * (w : Int) = ((4 * w : Nat) : Int) by push_cast; rfl, show (x : Int) + 1 = ((x + 1 : Nat) : Int) by push_cast; rfl]
    rw [ih k i (x + 1) (n + w * g) (4 * w) out (by omega) (by omega) (by omega) (by rw [show 4 * w * 4 ^ d = w * 4 ^ (d + 1) by rw [Nat.pow_succ, Nat.mul_comm 4 w, Nat.mul_assoc, Nat.mul_comm 4]]; exact hw) ho (by omega)]
    have e2 : n + w * g + 4 * w * pv ((s.data.toList.drop (x + 1)).take d) = n + w * (g + 4 * pv ((s.data.toList.drop (x + 1)).take d)) := by
      rw [Nat.mul_add, Nat.mul_comm 4 w, Nat.mul_assoc]
      omega
    rw [show k + 1 - (d + 1) - 1 = k - d - 1 by omega, e2, Nat.add_sub_cancel]
theorem pack_l0 (s : ByteArray) (hs : s.size ≤ 1000) (hd : Dg s.data.toList) (q : Nat) : ∀ (k j : Nat) (out : ByteArray), (s.size + 3) / 4 = j + q → out.size = j → 6 * q < k →
    r11pack.l0 k s out ((4 * j : Nat) : Int) = some ⟨(out.data.toList ++ pckN q (s.data.toList.drop (4 * j))).toArray⟩ := by
  induction q with
  | zero =>
    intro k j out hj ho hk
    obtain ⟨k, rfl⟩ : ∃ m, k = m + 1 := ⟨k - 1, by omega⟩
    simp only [r11pack.l0]
    rw [if_neg (by omega)]
    refine congrArg some (ext ?_)
    rw [ex]
    simp [pckN]
  | succ q ih =>
    intro k j out hj ho hk
    obtain ⟨k, rfl⟩ : ∃ m, k = m + 1 := ⟨k - 1, by omega⟩
    have hlt : 4 * j < s.size := by omega
    simp only [r11pack.l0]
    have z := pack_l1 s hs hd (min (4 * j + 4) s.size - 4 * j) k (4 * j) (4 * j) 0 1 out (by omega) (by omega) (by omega) (by have : 4 ^ (min (4 * j + 4) s.size - 4 * j) ≤ 4 ^ 4 := Nat.pow_le_pow_right (by decide) (by omega); omega) (by omega) (by omega)
    rw [if_pos (by omega)]
    refine Eq.trans z ?_
    rw [show 4 * j + 4 = 4 * (j + 1) by omega, ih _ (j + 1) _ (by omega) (by rw [ByteArray.size_append, one_size]; omega) (by omega), push_list, List.append_assoc]
    refine congrArg some (ext ?_)
    rw [ex, ex, pckN, List.drop_drop, List.singleton_append, Nat.zero_add, Nat.one_mul, show 4 * j + 4 = 4 * (j + 1) by omega]
    congr 3
    refine congrArg pv ?_
    rw [List.take_eq_take_iff, List.length_drop, data_length]
    omega
theorem pack_at (s : ByteArray) (hs : s.size ≤ 1000) (hd : Dg s.data.toList) {k : Nat} (hk : 2000 < k) : r11pack.f k s = some ⟨(pck s.data.toList).toArray⟩ := by
  unfold r11pack.f
  have := pack_l0 s hs hd ((s.size + 3) / 4) k 0 ⟨#[]⟩ (by omega) rfl (by omega)
  rw [show ((4 * 0 : Nat) : Int) = 0 from rfl] at this
  rw [this]
  unfold pck
  rw [data_length]
  rfl
end Go.Proofs.Ytbfnkdgjcpcmbaa.WireLib
