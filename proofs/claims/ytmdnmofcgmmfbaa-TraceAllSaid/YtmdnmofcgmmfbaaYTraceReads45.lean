import Derived.Test.YtmdnmofcgmmfbaaYTraceReads40
import Derived.Test.YtmdnmofcgmmfbaaYTraceReads33
namespace Go.Proofs.Ytmdnmofcgmmfbaa.traceAll
open Go.RowKit Go.Proofs.Ytmdnmofcgmmfbaa.T Go.Proofs.YtmdnmofcgmmfbaaW.PrintWords Go.Proofs.YtmdnmofcgmmfbaaW.PrintLast Go.Proofs.YtmdnmofcgmmfbaaW.PrintMore
set_option linter.unusedVariables false
def W4 (x : Bool) : Prop := True
theorem op4 : Opens Try.prog 4 Kd.bool W4 := Opens.bool Try.underlying4
def W3 (x : Int) : Prop := (Lit.int .i64 x).wf = true
theorem op3 : Opens Try.prog 3 (Kd.int .i64) W3 := Opens.int Try.underlying3
def W9 (x : ByteArray) : Prop := x.size ≤ 140737488351232
theorem op9 : Opens Try.prog 9 Kd.string W9 := Opens.string Try.underlying9
def W53 (x : S53) : Prop := W3 x.f0 ∧ W3 x.f1 ∧ W3 x.f2 ∧ W9 x.f3
theorem op53 : Opens Try.prog 53 k53 W53 := Opens.iso (fun x : S53 => (x.f0, x.f1, x.f2, x.f3)) (fun p => ⟨p.1, p.2.1, p.2.2.1, p.2.2.2⟩) (fun _ => rfl) (Opens.struct (tot := 4) Try.underlying53 (by kernel_rfl) (OpensF.cons (s := 1) rfl (by kernel_rfl) op3 (OpensF.cons (s := 1) rfl (by kernel_rfl) op3 (OpensF.cons (s := 1) rfl (by kernel_rfl) op3 (OpensF.last rfl (by kernel_rfl) op9)))))
def W26 (x : List S53) : Prop := x.length * 40 ≤ 140737488351232 ∧ ∀ y ∈ x, W53 y
theorem op26 : Opens Try.prog 26 (Kd.slice 53 k53) W26 := Opens.slice Try.underlying26 (by kernel_rfl) (by kernel_rfl) op53
def W28 (x : S28) : Prop := W4 x.f0 ∧ W4 x.f1 ∧ W3 x.f2 ∧ W3 x.f3 ∧ W9 x.f4 ∧ W3 x.f5 ∧ W26 x.f6
theorem op28 : Opens Try.prog 28 k28 W28 := Opens.iso (fun x : S28 => (x.f0, x.f1, x.f2, x.f3, x.f4, x.f5, x.f6)) (fun p => ⟨p.1, p.2.1, p.2.2.1, p.2.2.2.1, p.2.2.2.2.1, p.2.2.2.2.2.1, p.2.2.2.2.2.2⟩) (fun _ => rfl) (Opens.struct (tot := 7) Try.underlying28 (by kernel_rfl) (OpensF.cons (s := 1) rfl (by kernel_rfl) op4 (OpensF.cons (s := 1) rfl (by kernel_rfl) op4 (OpensF.cons (s := 1) rfl (by kernel_rfl) op3 (OpensF.cons (s := 1) rfl (by kernel_rfl) op3 (OpensF.cons (s := 1) rfl (by kernel_rfl) op9 (OpensF.cons (s := 1) rfl (by kernel_rfl) op3 (OpensF.last rfl (by kernel_rfl) op26))))))))
def W51 (x : List S28) : Prop := x.length * 72 ≤ 140737488351232 ∧ ∀ y ∈ x, W28 y
theorem op51 : Opens Try.prog 51 (Kd.slice 28 k28) W51 := Opens.slice Try.underlying51 (by kernel_rfl) (by kernel_rfl) op28
def W22 (x : List (List S28)) : Prop := x.length * 24 ≤ 140737488351232 ∧ ∀ y ∈ x, W51 y
theorem op22 : Opens Try.prog 22 (Kd.slice 51 (Kd.slice 28 k28)) W22 := Opens.slice Try.underlying22 (by kernel_rfl) (by kernel_rfl) op51
def Pure : Prop := ∀ (x0 : List (List S28)) (x1 : Int), W22 x0 → W3 x1 → ∃ k, l36TraceAll.f k x0 x1 = some true
end Go.Proofs.Ytmdnmofcgmmfbaa.traceAll
