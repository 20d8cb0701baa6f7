import Derived.Test.YtbfnkdgjcpcmbaaYWireWrites52
set_option linter.unusedVariables false
set_option linter.unusedSimpArgs false
namespace Go.Proofs.Ytbfnkdgjcpcmbaa.WireLib
open Go.RowKit Go.Proofs.Ytbfnkdgjcpcmbaa.X Go.Proofs.YtbfnkdgjcpcmbaaW.PrintWords Go.Proofs.Ytbfnkdgjcpcmbaa.ConfLib Go.Proofs.Ytbfnkdgjcpcmbaa.Bytes Go.Proofs.Ytbfnkdgjcpcmbaa.WireMath Go.Proofs.Ytbfnkdgjcpcmbaa.PacketLib Go.Proofs.Ytbfnkdgjcpcmbaa.CrcLib
theorem sz (l : List UInt8) : (⟨l.toArray⟩ : ByteArray).size = l.length := by rw [size_list, Bytes.ex]
theorem app (l m : List UInt8) : (⟨l.toArray⟩ : ByteArray) ++ ⟨m.toArray⟩ = ⟨(l ++ m).toArray⟩ := Bytes.ext (by rw [append_list, Bytes.ex, Bytes.ex, Bytes.ex])
theorem mk_of {a : ByteArray} {l : List UInt8} (h : a.data.toList = l) : a = ⟨l.toArray⟩ := Bytes.ext (by rw [Bytes.ex, h])
theorem emp_iff {a : ByteArray} : a.toList = [] ↔ a.data.toList = [] := by rw [ByteArray.toList_eq]
theorem all_dg {l : List UInt8} (h : l.all packet_digits.isd = true) : ∀ x ∈ l, 48 ≤ x.toNat ∧ x.toNat ≤ 50 := by
  intro x hx
  have := List.all_eq_true.1 h x hx
  unfold packet_digits.isd at this
  rw [Bool.and_eq_true] at this
  exact ⟨of_decide_eq_true this.1, of_decide_eq_true this.2⟩
theorem D_dg {s : ByteArray} {n : Int} (h : D s n = true) : (s.size : Int) = n ∧ ∀ x ∈ s.data.toList, 48 ≤ x.toNat ∧ x.toNat ≤ 50 := by
  unfold D at h
  rw [Bool.and_eq_true] at h
  exact ⟨of_decide_eq_true h.1, all_dg h.2⟩
theorem to_Dg {l : List UInt8} (h : ∀ x ∈ l, 48 ≤ x.toNat ∧ x.toNat ≤ 50) : Dg l := fun x hx => ⟨(h x hx).1, by have := (h x hx).2; omega⟩
theorem dg_ok {s : ByteArray} (hs : s.size ≤ 1000) (h : Dg s.data.toList) : wire_writer_digits.ok s := by
  refine ⟨hs, fun j hj => ?_⟩
  have := h _ (List.getElem_mem (show j < s.data.toList.length by rw [data_length]; exact hj))
  rw [Bytes.bt_nat s j hj]
  omega
section
variable {n f d p r dr o s m fr : Int} {t : List Int} {v : ByteArray} {ex : Int} {vec : ByteArray} {slot cyc : Int} {tx : ByteArray}
theorem right_parts (h : right n f d p r dr o s m fr t v ex vec slot cyc tx = 0) : plain n f d p r dr o s m fr t = 0 ∧ D v (rounds n f d p r dr o s m fr t) = true ∧ vecOk n f d p r dr o s m fr t ex vec = true ∧ 0 ≤ slot ∧ slot ≤ t.length ∧ numOk m slot cyc tx = true ∧ tx.size ≤ 16 := by
  unfold right at h
  split at h
  · rename_i hp
    split at h
    · rename_i hd
      split at h
      · rename_i hv
        split at h
        · omega
        · split at h
          · rename_i hn
            split at h
            · omega
            · exact ⟨hp, hd, hv, by omega, by omega, hn, by omega⟩
          · omega
      · omega
    · omega
  · rename_i hp
    exact absurd h hp
theorem right_can (h : right n f d p r dr o s m fr t v ex vec slot cyc tx = 0) : ∃ e sl cy : Nat, ex = e ∧ slot = sl ∧ cyc = cy ∧
    CanBe (rounds n f d p r dr o s m fr t).toNat (ConfLib.bits n f d p r dr o s m fr t).toNat v.data.toList e vec.data.toList sl cy tx.data.toList ∧ v.size ≤ 15 ∧ vec.size ≤ 21 ∧ tx.size ≤ 16 := by
  obtain ⟨hp, hd, hv, h0, h1, hn, hx⟩ := right_parts h
  have hf := plain_facts hp
  obtain ⟨_, _, z3, z4⟩ := plain_zero.1 hp
  unfold numbersOk at z3
  unfold tableOk at z4
  have hm : m ≤ 250 := by omega
  have ht : t.length ≤ 32 := z4.2.1
  have hr : rounds n f d p r dr o s m fr t = 3 * (f + 1) := by unfold rounds; rw [if_pos hp]
  have hb : ConfLib.bits n f d p r dr o s m fr t = 8 + n := by unfold ConfLib.bits; rw [if_pos hp]
  clear z3 z4
  obtain ⟨d1, d2⟩ := D_dg hd
  have hn := of_decide_eq_true hn
  have hv2 : 0 ≤ ex ∧ ex ≤ 15 ∧ (ex = 0 → vec.data.toList = []) ∧ (ex ≠ 0 → vec.data.toList.length = (ConfLib.bits n f d p r dr o s m fr t).toNat ∧ Dg vec.data.toList) ∧ vec.size ≤ 21 := by
    unfold vecOk at hv
    by_cases he : ex = 0
    · rw [if_pos he] at hv
      have hv : vec.toList = [] := by simpa using hv
      rw [emp_iff] at hv
      refine ⟨by omega, by omega, fun _ => hv, fun q => absurd he q, ?_⟩
      rw [← data_length, hv]
      exact Nat.zero_le _
    · rw [if_neg he, Bool.and_eq_true] at hv
      have a := of_decide_eq_true hv.1
      obtain ⟨e1, e2⟩ := D_dg hv.2
      refine ⟨by omega, by omega, fun q => absurd q he, fun _ => ⟨?_, to_Dg e2⟩, ?_⟩
      · rw [data_length]
        omega
      · omega
  obtain ⟨x0, x1, x2, x3, x4⟩ := hv2
  obtain ⟨e, rfl⟩ := Int.eq_ofNat_of_zero_le x0
  obtain ⟨sl, rfl⟩ := Int.eq_ofNat_of_zero_le h0
  obtain ⟨cy, rfl⟩ := Int.eq_ofNat_of_zero_le hn.1
  refine ⟨e, sl, cy, rfl, rfl, rfl, ⟨by rw [data_length]; omega, to_Dg d2, by omega, fun q => x2 (by omega), fun q => x3 (by omega), by omega, by omega, fun q => ?_, by rw [data_length]; omega⟩, by omega, x4, hx⟩
  have := hn.2.2 (by omega)
  exact ⟨by omega, emp_iff.1 this.2⟩
end
theorem PL_len {R B : Nat} {v : List UInt8} {ex : Nat} {vec : List UInt8} {slot cyc : Nat} {tx : List UInt8} (hv : v.length ≤ 15) (hc : vec.length ≤ 21) (hx : tx.length ≤ 16) : (PL v ex vec slot cyc tx).length ≤ 31 := by
  unfold PL vecL msgL
  simp only [List.length_cons, List.length_append, pck_length]
  split <;> split <;> simp only [List.length_cons, List.length_nil, pck_length] <;> omega
theorem ref_j2 {v : ByteArray} {ex : Int} {vec : ByteArray} {sl cy : Nat} {tx : ByteArray} (l : List UInt8) (hl : l.length ≤ 10000) (hx : tx.size ≤ 1000) (k : Nat) :
    r11plain.j2 (k + 1) ⟨l.toArray⟩ v ex vec sl cy tx = some ⟨(l ++ msgL sl cy tx.data.toList).toArray⟩ := by
  unfold msgL
  simp only [r11plain.j2]
  by_cases h : sl = 0
  · rw [if_neg (by omega), if_pos h, List.append_nil]
  · rw [if_pos (by omega), if_neg h]
    simp only [byte_at, Option.bind_some]
    have z : ∀ (x : UInt8), (⟨#[x]⟩ : ByteArray).size = 1 := fun _ => rfl
    rw [z, if_pos (by rw [sz]; omega), z, if_pos (by rw [sz]; omega), z, if_pos (by rw [sz]; omega), if_pos (by rw [sz]; omega)]
    refine congrArg some (Bytes.ext ?_)
    rw [append_list, push_list, push_list, push_list, Bytes.ex, Bytes.ex, data_length]
    simp only [List.append_assoc, List.cons_append, List.nil_append]
theorem ref_j1 {v : ByteArray} {ex : Nat} {vec : ByteArray} {sl cy : Nat} {tx : ByteArray} (hv : v.size ≤ 1000) (dv : Dg v.data.toList) (hc : vec.size ≤ 1000) (dc : ex ≠ 0 → Dg vec.data.toList) (hx : tx.size ≤ 1000) (tg : Nat) {k : Nat} (hk : 2000 < k) :
    r11plain.j1 (k + 2) tg v ex vec sl cy tx = some ⟨(UInt8.ofNat tg :: (pck v.data.toList ++ (vecL ex vec.data.toList ++ msgL sl cy tx.data.toList))).toArray⟩ := by
  have z : ∀ (x : UInt8), (⟨#[x]⟩ : ByteArray).size = 1 := fun _ => rfl
  have e1 : ∀ (x : UInt8), (⟨#[x]⟩ : ByteArray) = ⟨[x].toArray⟩ := fun _ => rfl
  have l1 : (pck v.data.toList).length = (v.size + 3) / 4 := by rw [pck_length, data_length]
  have l2 : (pck vec.data.toList).length = (vec.size + 3) / 4 := by rw [pck_length, data_length]
  unfold vecL
  simp only [r11plain.j1]
  rw [byte_at, pack_at v hv dv (by omega)]
  simp only [Option.bind_some]
  rw [if_pos (by rw [z, sz, l1]; omega)]
  by_cases h : ex = 0
  · rw [if_neg (by omega), if_pos h, e1, app, ref_j2 _ (by simp only [List.length_append, List.length_cons, List.length_nil, l1]; omega) hx]
    simp only [List.append_assoc, List.cons_append, List.nil_append]
  · rw [if_pos (by omega), if_neg h, byte_at, pack_at vec hc (dc h) (by omega)]
    simp only [Option.bind_some]
    rw [if_pos (by rw [z, z, sz, l1]; omega), if_pos (by rw [z, z, sz, sz, l1, l2]; omega), e1, e1, app, app, app, ref_j2 _ (by simp only [List.length_append, List.length_cons, List.length_nil, l1, l2]; omega) hx]
    simp only [List.append_assoc, List.cons_append, List.nil_append]
theorem ref_plain_pl {R B : Nat} {v : ByteArray} {ex : Nat} {vec : ByteArray} {sl cy : Nat} {tx : ByteArray} (h : CanBe R B v.data.toList ex vec.data.toList sl cy tx.data.toList) (hv : v.size ≤ 1000) (hc : vec.size ≤ 1000) (hx : tx.size ≤ 1000) {k : Nat} (hk : 2010 < k) :
    r11plain.f k v ex vec sl cy tx = some ⟨(PL v.data.toList ex vec.data.toList sl cy tx.data.toList).toArray⟩ := by
  obtain ⟨k, rfl⟩ : ∃ j, k = j + 3 := ⟨k - 3, by omega⟩
  have j0 : ∀ tg : Nat, tg ≤ 65 → r11plain.j0 (k + 3) tg v ex vec sl cy tx = some ⟨(UInt8.ofNat (tg + if sl = 0 then 0 else 2) :: (pck v.data.toList ++ (vecL ex vec.data.toList ++ msgL sl cy tx.data.toList))).toArray⟩ := by
    intro tg ht
    simp only [r11plain.j0]
    by_cases q : sl = 0
    · rw [if_neg (by omega), ref_j1 hv h.vd hc (fun q => (h.e1 q).2) hx tg (by omega), if_pos q, Nat.add_zero]
    · rw [if_pos (by omega), ConfLib.wrap_small (by omega) (by omega), show (tg : Int) + 2 = ((tg + 2 : Nat) : Int) by omega, ref_j1 hv h.vd hc (fun q => (h.e1 q).2) hx _ (by omega), if_neg q]
  unfold r11plain.f PL tagN
  by_cases q : ex = 0
  · rw [if_neg (by omega), if_pos q]
    exact j0 64 (by omega)
  · rw [if_pos (by omega), if_neg q]
    exact j0 65 (by omega)
def enc (n f d p r dr o s m fr : Int) (t : List Int) (v : ByteArray) (ex : Int) (vec : ByteArray) (slot cyc : Int) (tx : ByteArray) : ByteArray × Int :=
  if right n f d p r dr o s m fr t v ex vec slot cyc tx = 0 then (⟨(sealed (PL v.data.toList ex.toNat vec.data.toList slot.toNat cyc.toNat tx.data.toList)).toArray⟩, 0) else (⟨#[]⟩, right n f d p r dr o s m fr t v ex vec slot cyc tx)
section
variable (n f d p r dr o s m fr : Int) (t : List Int) (v : ByteArray) (ex : Int) (vec : ByteArray) (slot cyc : Int) (tx : ByteArray)
theorem enc_at {k : Nat} (hk : 100 < k) : wire_Encode.f k n f d p r dr o s m fr t v ex vec slot cyc tx = some (enc n f d p r dr o s m fr t v ex vec slot cyc tx) := by
  unfold wire_Encode.f enc
  rw [right_at n f d p r dr o s m fr t v ex vec slot cyc tx (by omega)]
  simp only [Option.bind_some]
  by_cases h : right n f d p r dr o s m fr t v ex vec slot cyc tx = 0
  · rw [if_pos h, if_pos h]
    obtain ⟨e, sl, cy, rfl, rfl, rfl, hc, b1, b2, b3⟩ := right_can h
    have hok : wire_Encode.ok v e vec sl cy tx := by
      refine ⟨dg_ok (by omega) hc.vd, ?_, by omega⟩
      by_cases q : e = 0
      · exact Or.inl (by omega)
      · exact Or.inr (dg_ok (by omega) (hc.e1 q).2)
    rw [if_pos hok, tag_at]
    simp only [Option.bind_some, Int.toNat_natCast]
    have e1 := mk_of (body_at hc)
    have e2 := PL_len (R := 0) (B := 0) (ex := e) (slot := sl) (cyc := cy) (show v.data.toList.length ≤ 15 by rw [data_length]; exact b1) (show vec.data.toList.length ≤ 21 by rw [data_length]; exact b2) (show tx.data.toList.length ≤ 16 by rw [data_length]; exact b3)
    rw [e1, seal_at _ (by rw [sz]; omega) (by rw [sz]; omega), Bytes.ex]
    rfl
  · rw [if_neg h, if_neg h]
theorem ref_enc_at {k : Nat} (hk : 3000 < k) : r11Encode.f k n f d p r dr o s m fr t v ex vec slot cyc tx = some (enc n f d p r dr o s m fr t v ex vec slot cyc tx) := by
  unfold r11Encode.f enc
  rw [ref_right_at n f d p r dr o s m fr t v ex vec slot cyc tx (by omega)]
  simp only [Option.bind_some]
  by_cases h : right n f d p r dr o s m fr t v ex vec slot cyc tx = 0
  · rw [if_pos h, if_pos h]
    obtain ⟨e, sl, cy, rfl, rfl, rfl, hc, b1, b2, b3⟩ := right_can h
    have e2 := PL_len (R := 0) (B := 0) (ex := e) (slot := sl) (cyc := cy) (show v.data.toList.length ≤ 15 by rw [data_length]; exact b1) (show vec.data.toList.length ≤ 21 by rw [data_length]; exact b2) (show tx.data.toList.length ≤ 16 by rw [data_length]; exact b3)
    rw [ref_plain_pl hc (by omega) (by omega) (by omega) (by omega)]
    simp only [Option.bind_some, Int.toNat_natCast]
    rw [ref_seal_at _ (by rw [sz]; omega) (by rw [sz]; omega), Bytes.ex]
    rfl
  · rw [if_neg h, if_neg h]
theorem size_at {k : Nat} (hk : 100 < k) : wire_Size.f k n f d p r dr o s m fr t v ex vec slot cyc tx = some ((enc n f d p r dr o s m fr t v ex vec slot cyc tx).1.size : Int) := by
  unfold wire_Size.f
  rw [enc_at n f d p r dr o s m fr t v ex vec slot cyc tx hk]
  simp only [Option.bind_some]
  by_cases h : right n f d p r dr o s m fr t v ex vec slot cyc tx = 0
  · rw [if_pos (by unfold enc; rw [if_pos h])]
  · unfold enc
    rw [if_neg h, if_neg h]
    rfl
theorem ref_size_at {k : Nat} (hk : 3000 < k) : r11Size.f k n f d p r dr o s m fr t v ex vec slot cyc tx = some ((enc n f d p r dr o s m fr t v ex vec slot cyc tx).1.size : Int) := by
  unfold r11Size.f
  rw [ref_enc_at n f d p r dr o s m fr t v ex vec slot cyc tx hk]
  rfl
end
end Go.Proofs.Ytbfnkdgjcpcmbaa.WireLib
