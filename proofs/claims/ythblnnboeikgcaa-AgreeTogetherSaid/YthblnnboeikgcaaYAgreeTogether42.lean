import Derived.Test.YthblnnboeikgcaaYAgreeTogether40
import Derived.Test.YthblnnboeikgcaaYAgreeTogether41
import Derived.Laws.Strings
import Derived.Laws.BytesArg
import Derived.WideShapes
section
namespace Go.Proofs.Ythblnnboeikgcaa.agreeTogether
open Go.RowKit Go.Proofs.Ythblnnboeikgcaa.X Go.Proofs.YthblnnboeikgcaaW.PrintWords Go.Proofs.YthblnnboeikgcaaW.PrintLast Go.Proofs.YthblnnboeikgcaaW.PrintMore
set_option linter.unusedVariables false
def W3 (x : Int) : Prop := (Lit.int .i64 x).wf = true
theorem op3 : Opens Try.prog 3 (Kd.int .i64) W3 := Opens.int Try.underlying3
def W22 (x : List Int) : Prop := x.length * 8 ≤ 140737488351232 ∧ ∀ y ∈ x, W3 y
theorem op22 : Opens Try.prog 22 (Kd.slice 3 (Kd.int .i64)) W22 := Opens.slice Try.underlying22 (by kernel_rfl) (by kernel_rfl) op3
def W24 (x : S24) : Prop := W3 x.f0 ∧ W3 x.f1 ∧ W3 x.f2 ∧ W3 x.f3 ∧ W3 x.f4 ∧ W3 x.f5 ∧ W3 x.f6 ∧ W3 x.f7 ∧ W3 x.f8 ∧ W3 x.f9 ∧ W22 x.f10
theorem op24 : Opens Try.prog 24 k24 W24 := Opens.iso (fun x : S24 => (x.f0, x.f1, x.f2, x.f3, x.f4, x.f5, x.f6, x.f7, x.f8, x.f9, x.f10)) (fun p => ⟨p.1, p.2.1, p.2.2.1, p.2.2.2.1, p.2.2.2.2.1, p.2.2.2.2.2.1, p.2.2.2.2.2.2.1, p.2.2.2.2.2.2.2.1, p.2.2.2.2.2.2.2.2.1, p.2.2.2.2.2.2.2.2.2.1, p.2.2.2.2.2.2.2.2.2.2⟩) (fun _ => rfl) (Opens.struct (tot := 11) Try.underlying24 (by kernel_rfl) (OpensF.cons (s := 1) rfl (by kernel_rfl) op3 (OpensF.cons (s := 1) rfl (by kernel_rfl) op3 (OpensF.cons (s := 1) rfl (by kernel_rfl) op3 (OpensF.cons (s := 1) rfl (by kernel_rfl) op3 (OpensF.cons (s := 1) rfl (by kernel_rfl) op3 (OpensF.cons (s := 1) rfl (by kernel_rfl) op3 (OpensF.cons (s := 1) rfl (by kernel_rfl) op3 (OpensF.cons (s := 1) rfl (by kernel_rfl) op3 (OpensF.cons (s := 1) rfl (by kernel_rfl) op3 (OpensF.cons (s := 1) rfl (by kernel_rfl) op3 (OpensF.last rfl (by kernel_rfl) op22))))))))))))
def W9 (x : ByteArray) : Prop := x.size ≤ 140737488351232
theorem op9 : Opens Try.prog 9 Kd.string W9 := Opens.string Try.underlying9
def W37 (x : List ByteArray) : Prop := x.length * 16 ≤ 140737488351232 ∧ ∀ y ∈ x, W9 y
theorem op37 : Opens Try.prog 37 (Kd.slice 9 Kd.string) W37 := Opens.slice Try.underlying37 (by kernel_rfl) (by kernel_rfl) op9
def W85 (x : S85) : Prop := W9 x.f0 ∧ W3 x.f1 ∧ W9 x.f2 ∧ W3 x.f3 ∧ W3 x.f4 ∧ W9 x.f5
theorem op85 : Opens Try.prog 85 k85 W85 := Opens.iso (fun x : S85 => (x.f0, x.f1, x.f2, x.f3, x.f4, x.f5)) (fun p => ⟨p.1, p.2.1, p.2.2.1, p.2.2.2.1, p.2.2.2.2.1, p.2.2.2.2.2⟩) (fun _ => rfl) (Opens.struct (tot := 6) Try.underlying85 (by kernel_rfl) (OpensF.cons (s := 1) rfl (by kernel_rfl) op9 (OpensF.cons (s := 1) rfl (by kernel_rfl) op3 (OpensF.cons (s := 1) rfl (by kernel_rfl) op9 (OpensF.cons (s := 1) rfl (by kernel_rfl) op3 (OpensF.cons (s := 1) rfl (by kernel_rfl) op3 (OpensF.last rfl (by kernel_rfl) op9)))))))
def W32 (x : List S85) : Prop := x.length * 72 ≤ 140737488351232 ∧ ∀ y ∈ x, W85 y
theorem op32 : Opens Try.prog 32 (Kd.slice 85 k85) W32 := Opens.slice Try.underlying32 (by kernel_rfl) (by kernel_rfl) op85
def W39 (x : S39) : Prop := W24 x.f0 ∧ W22 x.f1 ∧ W37 x.f2 ∧ W22 x.f3 ∧ W32 x.f4
theorem op39 : Opens Try.prog 39 k39 W39 := Opens.iso (fun x : S39 => (x.f0, x.f1, x.f2, x.f3, x.f4)) (fun p => ⟨p.1, p.2.1, p.2.2.1, p.2.2.2.1, p.2.2.2.2⟩) (fun _ => rfl) (Opens.struct (tot := 15) Try.underlying39 (by kernel_rfl) (OpensF.cons (s := 11) rfl (by kernel_rfl) op24 (OpensF.cons (s := 1) rfl (by kernel_rfl) op22 (OpensF.cons (s := 1) rfl (by kernel_rfl) op37 (OpensF.cons (s := 1) rfl (by kernel_rfl) op22 (OpensF.last rfl (by kernel_rfl) op32))))))
def Pure : Prop := ∀ (x0 : S39), W39 x0 → ∃ k, l19AgreeTogether.f k x0.f0.f0 x0.f0.f1 x0.f0.f2 x0.f0.f3 x0.f0.f4 x0.f0.f5 x0.f0.f6 x0.f0.f7 x0.f0.f8 x0.f0.f9 x0.f0.f10 x0.f1 x0.f2 x0.f3 x0.f4 = some true
end Go.Proofs.Ythblnnboeikgcaa.agreeTogether
end
section
set_option linter.unusedVariables false
set_option linter.unusedSimpArgs false
namespace Go.Proofs.Ythblnnboeikgcaa.Bytes
open Go.RowKit Go.Proofs.YthblnnboeikgcaaW.PrintWords
theorem ext {a b : ByteArray} (h : a.data.toList = b.data.toList) : a = b := ByteArray.ext (Array.toList_inj.1 h)
theorem ext_iff {a b : ByteArray} : a.toList = b.toList ↔ a = b := by
  rw [ByteArray.toList_eq, ByteArray.toList_eq]
  exact ⟨ext, fun h => by rw [h]⟩
theorem size_list (a : ByteArray) : a.size = a.data.toList.length := (data_length a).symm
theorem ex (l : List UInt8) : (⟨l.toArray⟩ : ByteArray).data.toList = l := by simp
theorem strOf_append (xs ys : List Int) : strOfNums (xs ++ ys) = strOfNums xs ++ strOfNums ys := ext (by simp [strOfNums_data, ByteArray.data_append])
theorem wrap_small {n : Int} (h0 : -9223372036854775808 ≤ n) (h1 : n ≤ 9223372036854775807) : wrap64 n = n := by
  unfold wrap64
  omega
theorem wf64 {n : Int} (h : (Lit.int .i64 n).wf = true) : -9223372036854775808 ≤ n ∧ n ≤ 9223372036854775807 := by
  simp [Lit.wf, IntKind.min, IntKind.max, IntKind.signed, IntKind.bits] at h
  omega
theorem bt_nat (s : ByteArray) (i : Nat) (h : i < s.size) : bt s (i : Int) = ((s.data.toList[i]'(by rw [data_length]; exact h)).toNat : Int) := by
  unfold bt
  simp only [Int.toNat_natCast, dif_pos h]
  rfl
end Go.Proofs.Ythblnnboeikgcaa.Bytes
end
