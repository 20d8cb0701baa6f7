import Derived.Test.YtfannnojhkkaiaaYVecSteps11
import Derived.Laws.Strings
import Derived.Laws.BytesArg
import Derived.WideShapes
set_option linter.unusedVariables false
set_option linter.unusedSimpArgs false
namespace Go.Proofs.Ytfannnojhkkaiaa.Bytes
open Go.RowKit Go.Proofs.YtfannnojhkkaiaaW.PrintWords
theorem ext {a b : ByteArray} (h : a.data.toList = b.data.toList) : a = b := ByteArray.ext (Array.toList_inj.1 h)
theorem size_list (a : ByteArray) : a.size = a.data.toList.length := (data_length a).symm
theorem strOf_append (xs ys : List Int) : strOfNums (xs ++ ys) = strOfNums xs ++ strOfNums ys := ext (by simp [strOfNums_data, ByteArray.data_append])
theorem wrap_small {n : Int} (h0 : -9223372036854775808 ≤ n) (h1 : n ≤ 9223372036854775807) : wrap64 n = n := by
  unfold wrap64
  omega
end Go.Proofs.Ytfannnojhkkaiaa.Bytes
