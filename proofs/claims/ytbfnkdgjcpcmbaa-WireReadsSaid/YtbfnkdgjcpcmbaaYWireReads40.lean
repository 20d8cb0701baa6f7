import Derived.Test.YtbfnkdgjcpcmbaaYWireReads38
import Derived.Test.YtbfnkdgjcpcmbaaYWireReads39
import Derived.Laws.Strings
import Derived.Laws.BytesArg
import Derived.WideShapes
section
namespace Go.Proofs.Ytbfnkdgjcpcmbaa.wireReads
open Go.RowKit Go.Proofs.Ytbfnkdgjcpcmbaa.X Go.Proofs.YtbfnkdgjcpcmbaaW.PrintWords Go.Proofs.YtbfnkdgjcpcmbaaW.PrintLast Go.Proofs.YtbfnkdgjcpcmbaaW.PrintMore
set_option linter.unusedVariables false
def W3 (x : Int) : Prop := (Lit.int .i64 x).wf = true
theorem op3 : Opens Try.prog 3 (Kd.int .i64) W3 := Opens.int Try.underlying3
def W22 (x : List Int) : Prop := x.length * 8 ≤ 140737488351232 ∧ ∀ y ∈ x, W3 y
theorem op22 : Opens Try.prog 22 (Kd.slice 3 (Kd.int .i64)) W22 := Opens.slice Try.underlying22 (by kernel_rfl) (by kernel_rfl) op3
def W24 (x : S24) : Prop := W3 x.f0 ∧ W3 x.f1 ∧ W3 x.f2 ∧ W3 x.f3 ∧ W3 x.f4 ∧ W3 x.f5 ∧ W3 x.f6 ∧ W3 x.f7 ∧ W3 x.f8 ∧ W3 x.f9 ∧ W22 x.f10
theorem op24 : Opens Try.prog 24 k24 W24 := Opens.iso (fun x : S24 => (x.f0, x.f1, x.f2, x.f3, x.f4, x.f5, x.f6, x.f7, x.f8, x.f9, x.f10)) (fun p => ⟨p.1, p.2.1, p.2.2.1, p.2.2.2.1, p.2.2.2.2.1, p.2.2.2.2.2.1, p.2.2.2.2.2.2.1, p.2.2.2.2.2.2.2.1, p.2.2.2.2.2.2.2.2.1, p.2.2.2.2.2.2.2.2.2.1, p.2.2.2.2.2.2.2.2.2.2⟩) (fun _ => rfl) (Opens.struct (tot := 11) Try.underlying24 (by kernel_rfl) (OpensF.cons (s := 1) rfl (by kernel_rfl) op3 (OpensF.cons (s := 1) rfl (by kernel_rfl) op3 (OpensF.cons (s := 1) rfl (by kernel_rfl) op3 (OpensF.cons (s := 1) rfl (by kernel_rfl) op3 (OpensF.cons (s := 1) rfl (by kernel_rfl) op3 (OpensF.cons (s := 1) rfl (by kernel_rfl) op3 (OpensF.cons (s := 1) rfl (by kernel_rfl) op3 (OpensF.cons (s := 1) rfl (by kernel_rfl) op3 (OpensF.cons (s := 1) rfl (by kernel_rfl) op3 (OpensF.cons (s := 1) rfl (by kernel_rfl) op3 (OpensF.last rfl (by kernel_rfl) op22))))))))))))
def W9 (x : ByteArray) : Prop := x.size ≤ 140737488351232
theorem op9 : Opens Try.prog 9 Kd.string W9 := Opens.string Try.underlying9
def Pure : Prop := ∀ (x0 : S24) (x1 : ByteArray), W24 x0 → W9 x1 → ∃ k, l11WireReads.f k x0.f0 x0.f1 x0.f2 x0.f3 x0.f4 x0.f5 x0.f6 x0.f7 x0.f8 x0.f9 x0.f10 x1 = some true
end Go.Proofs.Ytbfnkdgjcpcmbaa.wireReads
end
section
set_option linter.unusedVariables false
set_option linter.unusedSimpArgs false
namespace Go.Proofs.Ytbfnkdgjcpcmbaa.Bytes
open Go.RowKit Go.Proofs.YtbfnkdgjcpcmbaaW.PrintWords
theorem ext {a b : ByteArray} (h : a.data.toList = b.data.toList) : a = b := ByteArray.ext (Array.toList_inj.1 h)
theorem ext_iff {a b : ByteArray} : a.toList = b.toList ↔ a = b := by
  rw [ByteArray.toList_eq, ByteArray.toList_eq]
  exact ⟨ext, fun h => by rw [h]⟩
theorem size_list (a : ByteArray) : a.size = a.data.toList.length := (data_length a).symm
theorem ex (l : List UInt8) : (⟨l.toArray⟩ : ByteArray).data.toList = l := by simp
theorem append_list (a b : ByteArray) : (a ++ b).data.toList = a.data.toList ++ b.data.toList := by simp [ByteArray.data_append]
theorem extract_list (a : ByteArray) (i j : Nat) : (a.extract i j).data.toList = (a.data.toList.drop i).take (j - i) := by
  rw [ByteArray.data_extract, Array.toList_extract, List.extract_eq_take_drop]
theorem take_list (a : ByteArray) (j : Nat) : (a.extract 0 j).data.toList = a.data.toList.take j := by rw [extract_list]; simp
theorem drop_list (a : ByteArray) (i : Nat) : (a.extract i a.size).data.toList = a.data.toList.drop i := by
  rw [extract_list, List.take_of_length_le]
  rw [List.length_drop, data_length]
  omega
theorem wrap_small {n : Int} (h0 : -9223372036854775808 ≤ n) (h1 : n ≤ 9223372036854775807) : wrap64 n = n := by
  unfold wrap64
  omega
theorem bt_nat (s : ByteArray) (i : Nat) (h : i < s.size) : bt s (i : Int) = ((s.data.toList[i]'(by rw [data_length]; exact h)).toNat : Int) := by
  unfold bt
  simp only [Int.toNat_natCast, dif_pos h]
  rfl
theorem bt_list (s : ByteArray) (i : Nat) (h : i < s.size) : bt s (i : Int) = ((s.data.toList.getD i 0).toNat : Int) := by
  rw [bt_nat s i h, List.getD_eq_getElem?_getD, List.getElem?_eq_getElem (by rw [data_length]; exact h)]
  rfl
end Go.Proofs.Ytbfnkdgjcpcmbaa.Bytes
end
