import Derived.Test.YtbfnkdgjcpcmbaaYWireBack44
import Derived.Test.YtbfnkdgjcpcmbaaYWireBack39
import Derived.Test.YtbfnkdgjcpcmbaaYWireBack42
section
set_option linter.unusedVariables false
set_option linter.unusedSimpArgs false
namespace Go.Proofs.Ytbfnkdgjcpcmbaa.CrcLib
open Go.RowKit Go.Proofs.Ytbfnkdgjcpcmbaa.X Go.Proofs.YtbfnkdgjcpcmbaaW.PrintWords Go.Proofs.Ytbfnkdgjcpcmbaa.Bytes
theorem last_four {l : List UInt8} {n : Nat} (h : l.length = n + 4) : l.drop n = [l.getD n 0, l.getD (n + 1) 0, l.getD (n + 2) 0, l.getD (n + 3) 0] := by
  apply List.ext_getElem?
  intro i
  rw [List.getElem?_drop]
  rcases Nat.lt_or_ge i 4 with hi | hi
  · have : i = 0 ∨ i = 1 ∨ i = 2 ∨ i = 3 := by omega
    rcases this with rfl | rfl | rfl | rfl <;> simp [List.getD_eq_getElem?_getD] <;> rw [List.getElem?_eq_getElem (by omega)] <;> simp
  · rw [List.getElem?_eq_none (by omega), List.getElem?_eq_none (by simpa using hi)]
def opened (a : ByteArray) : ByteArray × Int :=
  if a.size < 4 then (⟨#[]⟩, 5) else if a.data.toList.drop (a.size - 4) = four (crc (a.data.toList.take (a.size - 4))) then (a.extract 0 (a.size - 4), 0) else (⟨#[]⟩, 4)
theorem open_at (a : ByteArray) (ha : a.size ≤ 140737488351236) {k : Nat} (hk : a.size + 30 < k) : crc_Open.f k a = some (opened a) := by
  unfold crc_Open.f opened
  by_cases h : a.size < 4
  · rw [if_pos h, if_pos h]
  · rw [if_neg h, if_pos ha, if_neg h]
    obtain ⟨n, hn⟩ : ∃ n, a.size = n + 4 := ⟨a.size - 4, by omega⟩
    have e : a.size - 4 = n := by omega
    have hl : a.data.toList.length = n + 4 := by rw [data_length]; exact hn
    have hs := sum_at (a.extract 0 n) (by rw [ByteArray.size_extract]; omega) (k := k) (by rw [ByteArray.size_extract]; omega)
    rw [e, get_at a n hn (by omega) (by omega)]
    simp only [Option.bind_some, if_true]
    rw [hs]
    simp only [Option.bind_some]
    rw [take_list] at *
    have hc := crc_lt (a.data.toList.take n)
    have hv := val_four hc (b0 := a.data.toList.getD n 0) (b1 := a.data.toList.getD (n + 1) 0) (b2 := a.data.toList.getD (n + 2) 0) (b3 := a.data.toList.getD (n + 3) 0)
    rw [← last_four hl] at hv
    have b0 := (a.data.toList.getD n 0).toNat_lt
    have b1 := (a.data.toList.getD (n + 1) 0).toNat_lt
    have b2 := (a.data.toList.getD (n + 2) 0).toNat_lt
    have b3 := (a.data.toList.getD (n + 3) 0).toNat_lt
    have hlt : val (a.data.toList.getD n 0).toNat (a.data.toList.getD (n + 1) 0).toNat (a.data.toList.getD (n + 2) 0).toNat (a.data.toList.getD (n + 3) 0).toNat < 4294967296 := by
      unfold val
      omega
    by_cases hd : a.data.toList.drop n = four (crc (a.data.toList.take n))
    · rw [if_pos hd, if_pos (by rw [hv.2 hd]; omega)]
    · rw [if_neg hd, if_neg (fun h2 => hd (hv.1 (by omega)))]
theorem w0 : wrap64 (256 * 1) = 256 := by unfold wrap64; omega
theorem w1 : wrap64 (256 * 256) = 65536 := by unfold wrap64; omega
theorem w2 : wrap64 (256 * 65536) = 16777216 := by unfold wrap64; omega
theorem w3 : wrap64 (256 * 16777216) = 4294967296 := by unfold wrap64; omega
theorem d0 {c : Nat} (h : c < 4294967296) : wrap64 ((c / 256 : Nat) : Int) = ((c / 256 : Nat) : Int) := by unfold wrap64; omega
theorem d1 {c : Nat} (h : c < 4294967296) : wrap64 ((c / 256 / 256 : Nat) : Int) = ((c / 256 / 256 : Nat) : Int) := by unfold wrap64; omega
theorem d2 {c : Nat} (h : c < 4294967296) : wrap64 ((c / 256 / 256 / 256 : Nat) : Int) = ((c / 256 / 256 / 256 : Nat) : Int) := by unfold wrap64; omega
end Go.Proofs.Ytbfnkdgjcpcmbaa.CrcLib
end
section
set_option linter.unusedVariables false
set_option linter.unusedSimpArgs false
namespace Go.Proofs.Ytbfnkdgjcpcmbaa.WireLib
open Go.RowKit Go.Proofs.Ytbfnkdgjcpcmbaa.X Go.Proofs.YtbfnkdgjcpcmbaaW.PrintWords Go.Proofs.Ytbfnkdgjcpcmbaa.ConfLib Go.Proofs.Ytbfnkdgjcpcmbaa.Bytes Go.Proofs.Ytbfnkdgjcpcmbaa.WireMath
theorem pckN_range : ∀ (m : Nat) (t : List UInt8), pckN m t = (List.range m).map fun j => UInt8.ofNat (pv ((t.drop (4 * j)).take 4))
  | 0, _ => rfl
  | m + 1, t => by
    rw [List.range_succ_eq_map, List.map_cons, List.map_map, pckN, pckN_range m]
    rw [List.cons.injEq]
    refine ⟨rfl, List.map_congr_left fun j _ => ?_⟩
    simp only [Function.comp, List.drop_drop]
    rw [show 4 + 4 * j = 4 * (j + 1) by omega]
theorem take_cons {l : List UInt8} {i d : Nat} (h : i < l.length) : (l.drop i).take (d + 1) = l[i] :: (l.drop (i + 1)).take d := by
  rw [List.drop_eq_getElem_cons h, List.take_succ_cons]
theorem cv_at (s : ByteArray) (hd : Dg s.data.toList) (hi : Nat) (hh : hi ≤ s.size) (q : Nat) : q ≤ hi → wire_writer_digits.cv s hi q = ((pv ((s.data.toList.drop (hi - q)).take q) : Nat) : Int) := by
  induction q with
  | zero => intro _; simp [wire_writer_digits.cv, pv]
  | succ q ih =>
    intro hq
    have hl : hi - 1 - q < s.size := by omega
    have hl' : hi - (q + 1) < s.data.toList.length := by rw [data_length]; omega
    simp only [wire_writer_digits.cv]
    rw [ih (by omega), bt_nat s _ hl, take_cons hl', show hi - (q + 1) + 1 = hi - q by omega]
    have e : s.data.toList[hi - 1 - q]'(by rw [data_length]; omega) = s.data.toList[hi - (q + 1)]'hl' := by congr 1; omega
    have := hd (s.data.toList[hi - (q + 1)]'hl') (List.getElem_mem hl')
    rw [e]
    simp only [pv]
    omega
theorem pk_at (s : ByteArray) (hd : Dg s.data.toList) : (wire_writer_digits.pk s ((s.size + 3) / 4)).map (fun n => UInt8.ofNat n.toNat) = pck s.data.toList := by
  unfold wire_writer_digits.pk pck
  rw [pckN_range, List.map_map, data_length]
  refine List.map_congr_left fun j hj => ?_
  have hj := List.mem_range.1 hj
  simp only [Function.comp]
  rw [cv_at s hd _ (by omega) _ (by omega), Int.toNat_natCast, show min (4 * j + 4) s.size - (min (4 * j + 4) s.size - 4 * j) = 4 * j by omega]
  congr 2
  rw [List.take_eq_take_iff, List.length_drop, data_length]
  omega
theorem byte_int {x : Int} (h0 : 0 ≤ x) (h1 : x < 256) : UInt8.ofNat (x % 256).toNat = UInt8.ofNat x.toNat := by rw [Int.emod_eq_of_lt h0 h1]
theorem vb_at {ex : Nat} (vec : ByteArray) (he : ex < 256) (hd : ex ≠ 0 → Dg vec.data.toList) : (wire_packetWriter_vector.vb ex vec).map (fun n => UInt8.ofNat n.toNat) = vecL ex vec.data.toList := by
  unfold wire_packetWriter_vector.vb vecL
  by_cases h : ex = 0
  · rw [if_pos (by omega), if_pos h]
    rfl
  · rw [if_neg (by omega), if_neg h, List.map_append, pk_at vec (hd h)]
    simp only [List.map_cons, List.map_nil, List.cons_append, List.nil_append]
    rw [byte_int (by omega) (by omega), Int.toNat_natCast]
theorem bytesOf_at (s : ByteArray) : (bytesOf s).map (fun n => UInt8.ofNat n.toNat) = s.data.toList := by
  simp [bytesOf, Function.comp_def]
theorem mb_at {slot cyc : Nat} (tx : ByteArray) (hs : slot < 256) (hc : cyc < 256) (ht : tx.size < 256) : (wire_packetWriter_message.mb slot cyc tx).map (fun n => UInt8.ofNat n.toNat) = msgL slot cyc tx.data.toList := by
  unfold wire_packetWriter_message.mb msgL
  by_cases h : slot = 0
  · rw [if_pos (by omega), if_pos h]
    rfl
  · rw [if_neg (by omega), if_neg h, List.map_append, bytesOf_at]
    simp only [List.map_cons, List.map_nil, List.cons_append, List.nil_append]
    rw [byte_int (by omega) (by omega), byte_int (by omega) (by omega), byte_int (by omega) (by omega), Int.toNat_natCast, Int.toNat_natCast, Int.toNat_natCast, data_length]
theorem tag_at (v : ByteArray) (ex : Nat) (vec : ByteArray) (slot : Nat) (cyc : Int) (tx : ByteArray) : wire_tag.f v ex vec slot cyc tx = some ((tagN ex slot : Nat) : Int) := by
  unfold wire_tag.f tagN
  by_cases h : ex = 0
  · by_cases h' : slot = 0
    · rw [if_pos (by omega), if_pos (by omega), if_pos h, if_pos h']
      rfl
    · rw [if_pos (by omega), if_neg (by omega), if_pos h, if_neg h']
      decide +kernel
  · by_cases h' : slot = 0
    · rw [if_neg (by omega), if_pos (by omega), if_neg h, if_pos h']
      decide +kernel
    · rw [if_neg (by omega), if_neg (by omega), if_neg h, if_neg h']
      decide +kernel
theorem body_at {v : ByteArray} {ex : Nat} {vec : ByteArray} {slot cyc : Nat} {tx : ByteArray} {R B : Nat} (h : CanBe R B v.data.toList ex vec.data.toList slot cyc tx.data.toList) :
    (strOfNums (wire_Encode.body (tagN ex slot : Nat) v ex vec slot cyc tx)).data.toList = PL v.data.toList ex vec.data.toList slot cyc tx.data.toList := by
  rw [strOfNums_data]
  unfold wire_Encode.body PL
  have ht := h.tx_lt
  rw [data_length] at ht
  have hg := tagN_lt ex slot
  rw [List.map_append, List.map_append, List.map_append, pk_at v h.vd, vb_at vec h.ex_lt (fun q => (h.e1 q).2), mb_at tx h.slot_lt h.cyc_lt ht]
  simp only [List.map_cons, List.map_nil, List.cons_append, List.nil_append, List.append_assoc]
  rw [byte_int (by omega) (by omega), Int.toNat_natCast]
end Go.Proofs.Ytbfnkdgjcpcmbaa.WireLib
end
