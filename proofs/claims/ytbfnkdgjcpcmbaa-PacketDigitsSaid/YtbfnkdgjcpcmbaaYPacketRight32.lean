import Derived.Test.YtbfnkdgjcpcmbaaYPacketRight11
import Derived.Laws.MakeOwn
import Derived.Laws.Strings
import Derived.Laws.BytesArg
import Derived.WideShapes
set_option linter.unusedVariables false
set_option linter.unusedSimpArgs false
namespace Go.Proofs.Ytbfnkdgjcpcmbaa.Bytes
open Go.RowKit Go.Proofs.YtbfnkdgjcpcmbaaW.PrintWords
theorem ex (l : List UInt8) : (⟨l.toArray⟩ : ByteArray).data.toList = l := by simp
theorem wrap_small {n : Int} (h0 : -9223372036854775808 ≤ n) (h1 : n ≤ 9223372036854775807) : wrap64 n = n := by
  unfold wrap64
  omega
theorem bt_nat (s : ByteArray) (i : Nat) (h : i < s.size) : bt s (i : Int) = ((s.data.toList[i]'(by rw [data_length]; exact h)).toNat : Int) := by
  unfold bt
  simp only [Int.toNat_natCast, dif_pos h]
  rfl
end Go.Proofs.Ytbfnkdgjcpcmbaa.Bytes
