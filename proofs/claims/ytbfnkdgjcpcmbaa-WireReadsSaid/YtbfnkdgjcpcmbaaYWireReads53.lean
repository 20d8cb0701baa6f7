import Derived.Test.YtbfnkdgjcpcmbaaYWireReads52
set_option linter.unusedVariables false
set_option linter.unusedSimpArgs false
namespace Go.Proofs.Ytbfnkdgjcpcmbaa.WireLib
open Go.RowKit Go.Proofs.Ytbfnkdgjcpcmbaa.X Go.Proofs.YtbfnkdgjcpcmbaaW.PrintWords Go.Proofs.Ytbfnkdgjcpcmbaa.ConfLib Go.Proofs.Ytbfnkdgjcpcmbaa.Bytes Go.Proofs.Ytbfnkdgjcpcmbaa.WireMath Go.Proofs.Ytbfnkdgjcpcmbaa.PacketLib Go.Proofs.Ytbfnkdgjcpcmbaa.CrcLib
theorem list_of {l : List UInt8} {y : ByteArray} (h : (⟨l.toArray⟩ : ByteArray) = y) : l = y.data.toList := by rw [← h, Bytes.ex]
def no (e : Int) : ByteArray × Int × ByteArray × Int × Int × ByteArray × Int := (⟨#[]⟩, 0, ⟨#[]⟩, 0, 0, ⟨#[]⟩, e)
section
variable (n f d p r dr o s m fr : Int) (t : List Int)
def rightL (R B : Nat) (l : List UInt8) : Int := right n f d p r dr o s m fr t ⟨(dt l.tail R).toArray⟩ ((rdX R B l).1 : Nat) ⟨(rdX R B l).2.1.toArray⟩ ((rdY R B l).1 : Nat) ((rdY R B l).2.1 : Nat) ⟨(rdY R B l).2.2.1.toArray⟩
def pktL (R B : Nat) (l : List UInt8) : ByteArray × Int × ByteArray × Int × Int × ByteArray × Int := (⟨(dt l.tail R).toArray⟩, (((rdX R B l).1 : Nat) : Int), ⟨(rdX R B l).2.1.toArray⟩, (((rdY R B l).1 : Nat) : Int), (((rdY R B l).2.1 : Nat) : Int), ⟨(rdY R B l).2.2.1.toArray⟩, 0)
def RN : Nat := (rounds n f d p r dr o s m fr t).toNat
def BN : Nat := (ConfLib.bits n f d p r dr o s m fr t).toNat
def dec (x : ByteArray) : ByteArray × Int × ByteArray × Int × Int × ByteArray × Int :=
  if plain n f d p r dr o s m fr t = 0 then
    (if x.size > 40 then no 6 else if (opened x).2 = 0 then
      (if rdBad (RN n f d p r dr o s m fr t) (BN n f d p r dr o s m fr t) (opened x).1.data.toList = true then no 3
       else if rightL n f d p r dr o s m fr t (RN n f d p r dr o s m fr t) (BN n f d p r dr o s m fr t) (opened x).1.data.toList = 0 then pktL (RN n f d p r dr o s m fr t) (BN n f d p r dr o s m fr t) (opened x).1.data.toList else no 3)
      else no (opened x).2)
  else no (plain n f d p r dr o s m fr t)
variable {n f d p r dr o s m fr t}
theorem RN_at (h : plain n f d p r dr o s m fr t = 0) : rounds n f d p r dr o s m fr t = (RN n f d p r dr o s m fr t : Int) ∧ RN n f d p r dr o s m fr t ≤ 15 ∧ ConfLib.bits n f d p r dr o s m fr t = (BN n f d p r dr o s m fr t : Int) ∧ BN n f d p r dr o s m fr t ≤ 21 := by
  have hf := plain_facts h
  unfold RN BN rounds ConfLib.bits
  rw [if_pos h, if_pos h]
  omega
theorem opened_size {x : ByteArray} : (opened x).1.size ≤ x.size := by
  unfold opened
  split
  · exact Nat.zero_le _
  · split
    · rw [ByteArray.size_extract]
      omega
    · exact Nat.zero_le _
variable (n f d p r dr o s m fr t)
theorem dec_at (x : ByteArray) {k : Nat} (hk : 1800 < k) : wire_Decode.f k n f d p r dr o s m fr t x = some (dec n f d p r dr o s m fr t x) := by
  unfold wire_Decode.f dec
  rw [plain_at n f d p r dr o s m fr t (by omega), Option.bind_some]
  by_cases h : plain n f d p r dr o s m fr t = 0
  · rw [if_pos h, if_pos h]
    by_cases h2 : x.size > 40
    · rw [if_pos (by omega), if_pos h2]
      rfl
    · rw [if_neg (by omega), if_neg h2, open_at x (by omega) (by omega), Option.bind_some]
      by_cases h3 : (opened x).2 = 0
      · rw [if_pos h3, if_pos h3]
        obtain ⟨r1, r2, r3, r4⟩ := RN_at h
        have hz := opened_size (x := x)
        obtain ⟨a', e⟩ := packet_rd n f d p r dr o s m fr t r1 (by omega) r3 (by omega) (x := (opened x).1) (by omega) (k := k) (by omega)
        rw [e, Option.bind_some]
        by_cases h4 : rdBad (RN n f d p r dr o s m fr t) (BN n f d p r dr o s m fr t) (opened x).1.data.toList = true
        · rw [if_pos h4, if_pos h4]
          rfl
        · rw [if_neg h4, if_neg h4, right_at _ _ _ _ _ _ _ _ _ _ _ _ _ _ _ _ _ (by omega), Option.bind_some]
          by_cases h5 : rightL n f d p r dr o s m fr t (RN n f d p r dr o s m fr t) (BN n f d p r dr o s m fr t) (opened x).1.data.toList = 0
          · rw [if_pos h5]
            exact if_pos h5
          · rw [if_neg h5]
            exact if_neg h5
      · rw [if_neg h3, if_neg h3]
        rfl
  · rw [if_neg h, if_neg h]
    rfl
theorem ref_dec_at (x : ByteArray) {k : Nat} (hk : 8000 < k) : r11Decode.f k n f d p r dr o s m fr t x = some (dec n f d p r dr o s m fr t x) := by
  unfold r11Decode.f dec
  rw [ref_plain_at n f d p r dr o s m fr t (by omega), Option.bind_some]
  by_cases h : plain n f d p r dr o s m fr t = 0
  · rw [if_pos h, if_pos h]
    by_cases h2 : x.size > 40
    · rw [if_pos (by omega), if_pos h2]
      rfl
    · rw [if_neg (by omega), if_neg h2, ref_open_at x (by omega) (by omega), Option.bind_some]
      by_cases h3 : (opened x).2 = 0
      · rw [if_pos h3, if_pos h3]
        obtain ⟨r1, r2, r3, r4⟩ := RN_at h
        have hz := opened_size (x := x)
        rw [guess_at n f d p r dr o s m fr t r1 (by omega) r3 (by omega) (x := (opened x).1) (by omega) (by omega), Option.bind_some]
        rw [ref_right_at _ _ _ _ _ _ _ _ _ _ _ _ _ _ _ _ _ (by omega), Option.bind_some]
        generalize (opened x).1 = y at *
        obtain ⟨R, hR⟩ : ∃ R, RN n f d p r dr o s m fr t = R := ⟨_, rfl⟩
        obtain ⟨B, hB⟩ : ∃ B, BN n f d p r dr o s m fr t = B := ⟨_, rfl⟩
        rw [hR, hB]
        by_cases h4 : rdBad R B y.data.toList = true
        · rw [if_pos h4]
          by_cases h5 : right n f d p r dr o s m fr t ⟨(up y.data.toList 1 R).toArray⟩ (((gsX R B y.data.toList).1 : Nat) : Int) ⟨(gsX R B y.data.toList).2.1.toArray⟩ (((gsY (gsX R B y.data.toList).2.2 y.data.toList).1 : Nat) : Int) (((gsY (gsX R B y.data.toList).2.2 y.data.toList).2.1 : Nat) : Int) ⟨(gsY (gsX R B y.data.toList).2.2 y.data.toList).2.2.toArray⟩ = 0
          · refine (if_pos h5).trans ?_
            obtain ⟨e, sl, cy, g1, g2, g3, hc, b1, b2, b3⟩ := right_can h5
            have g1 := Int.ofNat.inj g1
            have g2 := Int.ofNat.inj g2
            have g3 := Int.ofNat.inj g3
            subst g1
            subst g2
            subst g3
            rw [ref_plain_pl hc (by omega) (by omega) (by omega) (by omega), Option.bind_some]
            rw [if_neg]
            · rfl
            · intro q
              have q := ext_iff.1 q
              have z := (rd_PL hc).2.2.2.2.2.2
              rw [list_of q] at z
              have hR' : (rounds n f d p r dr o s m fr t).toNat = R := hR
              have hB' : (ConfLib.bits n f d p r dr o s m fr t).toNat = B := hB
              rw [hR', hB', h4] at z
              cases z
          · exact (if_neg h5).trans rfl
        · rw [if_neg h4]
          have h4' := Bool.eq_false_iff.2 h4
          obtain ⟨u1, u2, u3, u4⟩ := gs_good h4'
          rw [u1, u2, u3, u4]
          by_cases h5 : rightL n f d p r dr o s m fr t R B y.data.toList = 0
          · refine (if_pos h5).trans ?_
            obtain ⟨e, sl, cy, g1, g2, g3, hc, b1, b2, b3⟩ := right_can h5
            have g1 := Int.ofNat.inj g1
            have g2 := Int.ofNat.inj g2
            have g3 := Int.ofNat.inj g3
            subst g1
            subst g2
            subst g3
            rw [ref_plain_pl hc (by omega) (by omega) (by omega) (by omega), Option.bind_some]
            rw [if_pos (by rw [ext_iff]; exact Bytes.ext (by rw [Bytes.ex, Bytes.ex, Bytes.ex, Bytes.ex]; exact rd_good h4')), if_pos h5]
            rfl
          · refine (if_neg h5).trans ?_
            rw [if_neg h5]
            rfl
      · rw [if_neg h3, if_neg h3]
        rfl
  · rw [if_neg h, if_neg h, Option.bind_some]
    rfl
end
section
variable (n f d p r dr o s m fr : Int) (t : List Int) (v : ByteArray) (ex : Int) (vec : ByteArray) (slot cyc : Int) (tx : ByteArray)
end
end Go.Proofs.Ytbfnkdgjcpcmbaa.WireLib
