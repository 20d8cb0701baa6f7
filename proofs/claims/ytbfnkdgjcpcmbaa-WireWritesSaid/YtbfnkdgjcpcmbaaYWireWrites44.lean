import Derived.Test.YtbfnkdgjcpcmbaaYWireWrites10
import Derived.Laws.Strings
import Derived.Laws.BytesArg
import Derived.WideShapes
section
set_option linter.unusedVariables false
set_option linter.unusedSimpArgs false
namespace Go.Proofs.Ytbfnkdgjcpcmbaa.Bytes
open Go.RowKit Go.Proofs.YtbfnkdgjcpcmbaaW.PrintWords
theorem ext {a b : ByteArray} (h : a.data.toList = b.data.toList) : a = b := ByteArray.ext (Array.toList_inj.1 h)
theorem size_list (a : ByteArray) : a.size = a.data.toList.length := (data_length a).symm
theorem ex (l : List UInt8) : (⟨l.toArray⟩ : ByteArray).data.toList = l := by simp
theorem append_list (a b : ByteArray) : (a ++ b).data.toList = a.data.toList ++ b.data.toList := by simp [ByteArray.data_append]
theorem wrap_small {n : Int} (h0 : -9223372036854775808 ≤ n) (h1 : n ≤ 9223372036854775807) : wrap64 n = n := by
  unfold wrap64
  omega
theorem bt_nat (s : ByteArray) (i : Nat) (h : i < s.size) : bt s (i : Int) = ((s.data.toList[i]'(by rw [data_length]; exact h)).toNat : Int) := by
  unfold bt
  simp only [Int.toNat_natCast, dif_pos h]
  rfl
end Go.Proofs.Ytbfnkdgjcpcmbaa.Bytes
end
section
set_option linter.unusedVariables false
set_option linter.unusedSimpArgs false
namespace Go.Proofs.Ytbfnkdgjcpcmbaa.WireMath
def pv : List UInt8 → Nat
  | [] => 0
  | x :: l => (x.toNat - 48) + 4 * pv l
def Dg (l : List UInt8) : Prop := ∀ x ∈ l, 48 ≤ x.toNat ∧ x.toNat ≤ 51
def pckN : Nat → List UInt8 → List UInt8
  | 0, _ => []
  | m + 1, t => UInt8.ofNat (pv (t.take 4)) :: pckN m (t.drop 4)
def pck (t : List UInt8) : List UInt8 := pckN ((t.length + 3) / 4) t
theorem u8 {n : Nat} (h : n < 256) : (UInt8.ofNat n).toNat = n := by
  rw [UInt8.toNat_ofNat']; exact Nat.mod_eq_of_lt h
theorem pckN_length : ∀ (m : Nat) (t : List UInt8), (pckN m t).length = m
  | 0, _ => rfl
  | m + 1, t => by simp [pckN, pckN_length m]
theorem pck_length (t : List UInt8) : (pck t).length = (t.length + 3) / 4 := pckN_length _ _
end Go.Proofs.Ytbfnkdgjcpcmbaa.WireMath
end
section
set_option linter.unusedVariables false
set_option linter.unusedSimpArgs false
namespace Go.Proofs.Ytbfnkdgjcpcmbaa.WireMath
def tagN (ex slot : Nat) : Nat := 64 + (if ex = 0 then 0 else 1) + (if slot = 0 then 0 else 2)
def vecL (ex : Nat) (vec : List UInt8) : List UInt8 := if ex = 0 then [] else UInt8.ofNat ex :: pck vec
def msgL (slot cyc : Nat) (tx : List UInt8) : List UInt8 := if slot = 0 then [] else UInt8.ofNat slot :: UInt8.ofNat cyc :: UInt8.ofNat tx.length :: tx
def PL (v : List UInt8) (ex : Nat) (vec : List UInt8) (slot cyc : Nat) (tx : List UInt8) : List UInt8 :=
  UInt8.ofNat (tagN ex slot) :: (pck v ++ (vecL ex vec ++ msgL slot cyc tx))
structure CanBe (R B : Nat) (v : List UInt8) (ex : Nat) (vec : List UInt8) (slot cyc : Nat) (tx : List UInt8) : Prop where
  vl : v.length = R
  vd : Dg v
  ex_lt : ex < 256
  e0 : ex = 0 → vec = []
  e1 : ex ≠ 0 → vec.length = B ∧ Dg vec
  slot_lt : slot < 256
  cyc_lt : cyc < 256
  s0 : slot = 0 → cyc = 0 ∧ tx = []
  tx_lt : tx.length < 256
theorem tagN_lt (ex slot : Nat) : tagN ex slot < 256 := by
  unfold tagN
  split <;> split <;> omega
section
variable {R B : Nat} {v : List UInt8} {ex : Nat} {vec : List UInt8} {slot cyc : Nat} {tx : List UInt8}
end
end Go.Proofs.Ytbfnkdgjcpcmbaa.WireMath
end
