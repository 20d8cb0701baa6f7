import Derived.Test.YtbfnkdgjcpcmbaaYWireBack47
set_option linter.unusedVariables false
set_option linter.unusedSimpArgs false
namespace Go.Proofs.Ytbfnkdgjcpcmbaa.WireLib
open Go.RowKit Go.Proofs.Ytbfnkdgjcpcmbaa.X Go.Proofs.YtbfnkdgjcpcmbaaW.PrintWords Go.Proofs.Ytbfnkdgjcpcmbaa.ConfLib Go.Proofs.Ytbfnkdgjcpcmbaa.Bytes Go.Proofs.Ytbfnkdgjcpcmbaa.WireMath Go.Proofs.Ytbfnkdgjcpcmbaa.PacketLib Go.Proofs.Ytbfnkdgjcpcmbaa.CrcLib
def no (e : Int) : ByteArray × Int × ByteArray × Int × Int × ByteArray × Int := (⟨#[]⟩, 0, ⟨#[]⟩, 0, 0, ⟨#[]⟩, e)
section
variable (n f d p r dr o s m fr : Int) (t : List Int)
def rightL (R B : Nat) (l : List UInt8) : Int := right n f d p r dr o s m fr t ⟨(dt l.tail R).toArray⟩ ((rdX R B l).1 : Nat) ⟨(rdX R B l).2.1.toArray⟩ ((rdY R B l).1 : Nat) ((rdY R B l).2.1 : Nat) ⟨(rdY R B l).2.2.1.toArray⟩
def pktL (R B : Nat) (l : List UInt8) : ByteArray × Int × ByteArray × Int × Int × ByteArray × Int := (⟨(dt l.tail R).toArray⟩, (((rdX R B l).1 : Nat) : Int), ⟨(rdX R B l).2.1.toArray⟩, (((rdY R B l).1 : Nat) : Int), (((rdY R B l).2.1 : Nat) : Int), ⟨(rdY R B l).2.2.1.toArray⟩, 0)
def RN : Nat := (rounds n f d p r dr o s m fr t).toNat
def BN : Nat := (ConfLib.bits n f d p r dr o s m fr t).toNat
def dec (x : ByteArray) : ByteArray × Int × ByteArray × Int × Int × ByteArray × Int :=
  if plain n f d p r dr o s m fr t = 0 then
    (if x.size > 40 then no 6 else if (opened x).2 = 0 then
      (if rdBad (RN n f d p r dr o s m fr t) (BN n f d p r dr o s m fr t) (opened x).1.data.toList = true then no 3
       else if rightL n f d p r dr o s m fr t (RN n f d p r dr o s m fr t) (BN n f d p r dr o s m fr t) (opened x).1.data.toList = 0 then pktL (RN n f d p r dr o s m fr t) (BN n f d p r dr o s m fr t) (opened x).1.data.toList else no 3)
      else no (opened x).2)
  else no (plain n f d p r dr o s m fr t)
variable {n f d p r dr o s m fr t}
theorem RN_at (h : plain n f d p r dr o s m fr t = 0) : rounds n f d p r dr o s m fr t = (RN n f d p r dr o s m fr t : Int) ∧ RN n f d p r dr o s m fr t ≤ 15 ∧ ConfLib.bits n f d p r dr o s m fr t = (BN n f d p r dr o s m fr t : Int) ∧ BN n f d p r dr o s m fr t ≤ 21 := by
  have hf := plain_facts h
  unfold RN BN rounds ConfLib.bits
  rw [if_pos h, if_pos h]
  omega
theorem opened_size {x : ByteArray} : (opened x).1.size ≤ x.size := by
  unfold opened
  split
  · exact Nat.zero_le _
  · split
    · rw [ByteArray.size_extract]
      omega
    · exact Nat.zero_le _
variable (n f d p r dr o s m fr t)
theorem dec_at (x : ByteArray) {k : Nat} (hk : 1800 < k) : wire_Decode.f k n f d p r dr o s m fr t x = some (dec n f d p r dr o s m fr t x) := by
  unfold wire_Decode.f dec
  rw [plain_at n f d p r dr o s m fr t (by omega), Option.bind_some]
  by_cases h : plain n f d p r dr o s m fr t = 0
  · rw [if_pos h, if_pos h]
    by_cases h2 : x.size > 40
    · rw [if_pos (by omega), if_pos h2]
      rfl
    · rw [if_neg (by omega), if_neg h2, open_at x (by omega) (by omega), Option.bind_some]
      by_cases h3 : (opened x).2 = 0
      · rw [if_pos h3, if_pos h3]
        obtain ⟨r1, r2, r3, r4⟩ := RN_at h
        have hz := opened_size (x := x)
        obtain ⟨a', e⟩ := packet_rd n f d p r dr o s m fr t r1 (by omega) r3 (by omega) (x := (opened x).1) (by omega) (k := k) (by omega)
        rw [e, Option.bind_some]
        by_cases h4 : rdBad (RN n f d p r dr o s m fr t) (BN n f d p r dr o s m fr t) (opened x).1.data.toList = true
        · rw [if_pos h4, if_pos h4]
          rfl
        · rw [if_neg h4, if_neg h4, right_at _ _ _ _ _ _ _ _ _ _ _ _ _ _ _ _ _ (by omega), Option.bind_some]
          by_cases h5 : rightL n f d p r dr o s m fr t (RN n f d p r dr o s m fr t) (BN n f d p r dr o s m fr t) (opened x).1.data.toList = 0
          · rw [if_pos h5]
            exact if_pos h5
          · rw [if_neg h5]
            exact if_neg h5
      · rw [if_neg h3, if_neg h3]
        rfl
  · rw [if_neg h, if_neg h]
    rfl
end
theorem opened_sealed (l : List UInt8) : opened ⟨(sealed l).toArray⟩ = (⟨l.toArray⟩, 0) := by
  have hz : (⟨(sealed l).toArray⟩ : ByteArray).size = l.length + 4 := by rw [sz, sealed, List.length_append, four_length]
  unfold opened
  rw [if_neg (by omega), hz, show l.length + 4 - 4 = l.length by omega, Bytes.ex]
  have ht : (sealed l).take l.length = l := by rw [sealed, List.take_left]
  have hd : (sealed l).drop l.length = four (crc l) := by rw [sealed, List.drop_left]
  rw [ht, hd, if_pos rfl]
  refine congrArg (fun b => (b, (0 : Int))) (Bytes.ext ?_)
  rw [take_list, Bytes.ex, Bytes.ex, ht]
theorem sealed_opened {x : ByteArray} (h : (opened x).2 = 0) : sealed (opened x).1.data.toList = x.data.toList := by
  unfold opened at h ⊢
  split at h
  · cases h
  · rename_i h1
    rw [if_neg h1]
    split at h
    · rename_i h2
      rw [if_pos h2]
      show sealed (x.extract 0 (x.size - 4)).data.toList = _
      rw [take_list, sealed, ← h2, List.take_append_drop]
    · cases h
section
variable (n f d p r dr o s m fr : Int) (t : List Int) (v : ByteArray) (ex : Int) (vec : ByteArray) (slot cyc : Int) (tx : ByteArray)
theorem enc_list (h : right n f d p r dr o s m fr t v ex vec slot cyc tx = 0) : ∃ l, enc n f d p r dr o s m fr t v ex vec slot cyc tx = (⟨(sealed l).toArray⟩, 0) ∧ l.length ≤ 31 ∧ l = PL v.data.toList ex.toNat vec.data.toList slot.toNat cyc.toNat tx.data.toList := by
  have h1 : enc n f d p r dr o s m fr t v ex vec slot cyc tx = (⟨(sealed (PL v.data.toList ex.toNat vec.data.toList slot.toNat cyc.toNat tx.data.toList)).toArray⟩, 0) := if_pos h
  refine ⟨_, h1, ?_, rfl⟩
  have h2 := enc_size n f d p r dr o s m fr t v ex vec slot cyc tx h
  rw [h1] at h2
  have h2 : (⟨(sealed (PL v.data.toList ex.toNat vec.data.toList slot.toNat cyc.toNat tx.data.toList)).toArray⟩ : ByteArray).size ≤ 35 := h2
  rw [sz, sealed, List.length_append, four_length] at h2
  omega
theorem dec_enc (h : right n f d p r dr o s m fr t v ex vec slot cyc tx = 0) : dec n f d p r dr o s m fr t (enc n f d p r dr o s m fr t v ex vec slot cyc tx).1 = (v, ex, vec, slot, cyc, tx, 0) := by
  obtain ⟨l, h1, h2, h3⟩ := enc_list n f d p r dr o s m fr t v ex vec slot cyc tx h
  rw [h1]
  obtain ⟨e, sl, cy, rfl, rfl, rfl, hc, b1, b2, b3⟩ := right_can h
  simp only [Int.toNat_natCast] at h3
  have hz : (⟨(sealed l).toArray⟩ : ByteArray).size = l.length + 4 := by rw [sz, sealed, List.length_append, four_length]
  have z := rd_PL hc
  rw [← h3] at z
  obtain ⟨z1, z2, z3, z4, z5, z6, z7⟩ := z
  have hp : pktL (rounds n f d p r dr o s m fr t).toNat (ConfLib.bits n f d p r dr o s m fr t).toNat l = (v, (e : Int), vec, (sl : Int), (cy : Int), tx, 0) := by
    unfold pktL
    rw [z1, z2, z3, z4, z5, z6, mk_list, mk_list, mk_list]
  have hq : rightL n f d p r dr o s m fr t (rounds n f d p r dr o s m fr t).toNat (ConfLib.bits n f d p r dr o s m fr t).toNat l = 0 := by
    unfold rightL
    rw [z1, z2, z3, z4, z5, z6, mk_list, mk_list, mk_list]
    exact h
  unfold dec
  rw [if_pos (right_parts h).1, if_neg (by rw [hz]; omega), opened_sealed, if_pos rfl, Bytes.ex]
  unfold RN BN
  rw [z7, if_neg (by decide), if_pos hq, hp]
theorem dec_cases (x : ByteArray) : (∃ R B l, dec n f d p r dr o s m fr t x = pktL R B l ∧ rightL n f d p r dr o s m fr t R B l = 0 ∧ rdBad R B l = false ∧ sealed l = x.data.toList) ∨ ∃ e, dec n f d p r dr o s m fr t x = no e ∧ e ≠ 0 := by
  unfold dec
  split
  · split
    · exact Or.inr ⟨6, rfl, by decide⟩
    · split
      · rename_i h3
        split
        · exact Or.inr ⟨3, rfl, by decide⟩
        · rename_i h4
          split
          · rename_i h5
            exact Or.inl ⟨_, _, _, rfl, h5, Bool.eq_false_iff.2 h4, sealed_opened h3⟩
          · exact Or.inr ⟨3, rfl, by decide⟩
      · rename_i h3
        exact Or.inr ⟨_, rfl, h3⟩
  · rename_i h
    exact Or.inr ⟨_, rfl, h⟩
end
end Go.Proofs.Ytbfnkdgjcpcmbaa.WireLib
