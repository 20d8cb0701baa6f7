import Derived.Test.YthblnnboeikgcaaYPipeMoves5
import Derived.Laws.MakeOwn
import Derived.Laws.Strings
import Derived.Laws.BytesArg
import Derived.WideShapes
set_option linter.unusedVariables false
set_option linter.unusedSimpArgs false
namespace Go.Proofs.Ythblnnboeikgcaa.Bytes
open Go.RowKit Go.Proofs.YthblnnboeikgcaaW.PrintWords
theorem ext {a b : ByteArray} (h : a.data.toList = b.data.toList) : a = b := ByteArray.ext (Array.toList_inj.1 h)
theorem ext_iff {a b : ByteArray} : a.toList = b.toList ↔ a = b := by
  rw [ByteArray.toList_eq, ByteArray.toList_eq]
  exact ⟨ext, fun h => by rw [h]⟩
theorem size_list (a : ByteArray) : a.size = a.data.toList.length := (data_length a).symm
theorem ex (l : List UInt8) : (⟨l.toArray⟩ : ByteArray).data.toList = l := by simp
theorem strOf_append (xs ys : List Int) : strOfNums (xs ++ ys) = strOfNums xs ++ strOfNums ys := ext (by simp [strOfNums_data, ByteArray.data_append])
theorem extract_list (a : ByteArray) (i j : Nat) : (a.extract i j).data.toList = (a.data.toList.drop i).take (j - i) := by
  rw [ByteArray.data_extract, Array.toList_extract, List.extract_eq_take_drop]
theorem wrap_small {n : Int} (h0 : -9223372036854775808 ≤ n) (h1 : n ≤ 9223372036854775807) : wrap64 n = n := by
  unfold wrap64
  omega
theorem bt_nat (s : ByteArray) (i : Nat) (h : i < s.size) : bt s (i : Int) = ((s.data.toList[i]'(by rw [data_length]; exact h)).toNat : Int) := by
  unfold bt
  simp only [Int.toNat_natCast, dif_pos h]
  rfl
theorem bt_list (s : ByteArray) (i : Nat) (h : i < s.size) : bt s (i : Int) = ((s.data.toList.getD i 0).toNat : Int) := by
  rw [bt_nat s i h, List.getD_eq_getElem?_getD, List.getElem?_eq_getElem (by rw [data_length]; exact h)]
  rfl
end Go.Proofs.Ythblnnboeikgcaa.Bytes
