import Derived.Test.YtfdkmeokfmgfhaaYPortLast30
import Derived.Test.YtfdkmeokfmgfhaaYPortLast31
namespace Go.Proofs.Ytfdkmeokfmgfhaa.portLast
open Go.RowKit Go.Proofs.Ytfdkmeokfmgfhaa.X Go.Proofs.YtfdkmeokfmgfhaaW.PrintWords Go.Proofs.YtfdkmeokfmgfhaaW.PrintLast Go.Proofs.YtfdkmeokfmgfhaaW.PrintMore
set_option linter.unusedVariables false
def W3 (x : Int) : Prop := (Lit.int .i64 x).wf = true
theorem op3 : Opens Try.prog 3 (Kd.int .i64) W3 := Opens.int Try.underlying3
def W22 (x : List Int) : Prop := x.length * 8 ≤ 140737488351232 ∧ ∀ y ∈ x, W3 y
theorem op22 : Opens Try.prog 22 (Kd.slice 3 (Kd.int .i64)) W22 := Opens.slice Try.underlying22 (by kernel_rfl) (by kernel_rfl) op3
def W24 (x : S24) : Prop := W3 x.f0 ∧ W3 x.f1 ∧ W3 x.f2 ∧ W3 x.f3 ∧ W3 x.f4 ∧ W3 x.f5 ∧ W3 x.f6 ∧ W3 x.f7 ∧ W3 x.f8 ∧ W3 x.f9 ∧ W22 x.f10
theorem op24 : Opens Try.prog 24 k24 W24 := Opens.iso (fun x : S24 => (x.f0, x.f1, x.f2, x.f3, x.f4, x.f5, x.f6, x.f7, x.f8, x.f9, x.f10)) (fun p => ⟨p.1, p.2.1, p.2.2.1, p.2.2.2.1, p.2.2.2.2.1, p.2.2.2.2.2.1, p.2.2.2.2.2.2.1, p.2.2.2.2.2.2.2.1, p.2.2.2.2.2.2.2.2.1, p.2.2.2.2.2.2.2.2.2.1, p.2.2.2.2.2.2.2.2.2.2⟩) (fun _ => rfl) (Opens.struct (tot := 11) Try.underlying24 (by kernel_rfl) (OpensF.cons (s := 1) rfl (by kernel_rfl) op3 (OpensF.cons (s := 1) rfl (by kernel_rfl) op3 (OpensF.cons (s := 1) rfl (by kernel_rfl) op3 (OpensF.cons (s := 1) rfl (by kernel_rfl) op3 (OpensF.cons (s := 1) rfl (by kernel_rfl) op3 (OpensF.cons (s := 1) rfl (by kernel_rfl) op3 (OpensF.cons (s := 1) rfl (by kernel_rfl) op3 (OpensF.cons (s := 1) rfl (by kernel_rfl) op3 (OpensF.cons (s := 1) rfl (by kernel_rfl) op3 (OpensF.cons (s := 1) rfl (by kernel_rfl) op3 (OpensF.last rfl (by kernel_rfl) op22))))))))))))
def W9 (x : ByteArray) : Prop := x.size ≤ 140737488351232
theorem op9 : Opens Try.prog 9 Kd.string W9 := Opens.string Try.underlying9
def W43 (x : S43) : Prop := W9 x.f0 ∧ W3 x.f1 ∧ W3 x.f2
theorem op43 : Opens Try.prog 43 k43 W43 := Opens.iso (fun x : S43 => (x.f0, x.f1, x.f2)) (fun p => ⟨p.1, p.2.1, p.2.2⟩) (fun _ => rfl) (Opens.struct (tot := 3) Try.underlying43 (by kernel_rfl) (OpensF.cons (s := 1) rfl (by kernel_rfl) op9 (OpensF.cons (s := 1) rfl (by kernel_rfl) op3 (OpensF.last rfl (by kernel_rfl) op3))))
def W25 (x : List S43) : Prop := x.length * 32 ≤ 140737488351232 ∧ ∀ y ∈ x, W43 y
theorem op25 : Opens Try.prog 25 (Kd.slice 43 k43) W25 := Opens.slice Try.underlying25 (by kernel_rfl) (by kernel_rfl) op43
def W38 (x : S38) : Prop := W3 x.f0 ∧ W3 x.f1 ∧ W3 x.f2 ∧ W9 x.f3
theorem op38 : Opens Try.prog 38 k38 W38 := Opens.iso (fun x : S38 => (x.f0, x.f1, x.f2, x.f3)) (fun p => ⟨p.1, p.2.1, p.2.2.1, p.2.2.2⟩) (fun _ => rfl) (Opens.struct (tot := 4) Try.underlying38 (by kernel_rfl) (OpensF.cons (s := 1) rfl (by kernel_rfl) op3 (OpensF.cons (s := 1) rfl (by kernel_rfl) op3 (OpensF.cons (s := 1) rfl (by kernel_rfl) op3 (OpensF.last rfl (by kernel_rfl) op9)))))
def W26 (x : List S38) : Prop := x.length * 40 ≤ 140737488351232 ∧ ∀ y ∈ x, W38 y
theorem op26 : Opens Try.prog 26 (Kd.slice 38 k38) W26 := Opens.slice Try.underlying26 (by kernel_rfl) (by kernel_rfl) op38
def Pure : Prop := ∀ (x0 : S24) (x1 : List S43) (x2 : List S38) (x3 : Int), W24 x0 → W25 x1 → W26 x2 → W3 x3 → ∃ k, l26PortLast.f k x0.f0 x0.f1 x0.f2 x0.f3 x0.f4 x0.f5 x0.f6 x0.f7 x0.f8 x0.f9 x0.f10 x1 x2 x3 = some true
end Go.Proofs.Ytfdkmeokfmgfhaa.portLast
