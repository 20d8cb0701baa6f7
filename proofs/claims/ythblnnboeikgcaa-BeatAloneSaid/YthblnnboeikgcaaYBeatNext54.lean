import Derived.Test.YthblnnboeikgcaaYBeatNext53
import Derived.Test.YthblnnboeikgcaaYBeatNext50
section
namespace Go.Proofs.Ythblnnboeikgcaa.beatAlone
open Go.RowKit Go.Proofs.Ythblnnboeikgcaa.B Go.Proofs.YthblnnboeikgcaaW.PrintWords Go.Proofs.YthblnnboeikgcaaW.PrintLast Go.Proofs.YthblnnboeikgcaaW.PrintMore
set_option linter.unusedVariables false
def W3 (x : Int) : Prop := (Lit.int .i64 x).wf = true
theorem op3 : Opens Try.prog 3 (Kd.int .i64) W3 := Opens.int Try.underlying3
def W22 (x : List Int) : Prop := x.length * 8 ≤ 140737488351232 ∧ ∀ y ∈ x, W3 y
theorem op22 : Opens Try.prog 22 (Kd.slice 3 (Kd.int .i64)) W22 := Opens.slice Try.underlying22 (by kernel_rfl) (by kernel_rfl) op3
def W24 (x : S24) : Prop := W3 x.f0 ∧ W3 x.f1 ∧ W3 x.f2 ∧ W3 x.f3 ∧ W3 x.f4 ∧ W3 x.f5 ∧ W3 x.f6 ∧ W3 x.f7 ∧ W3 x.f8 ∧ W3 x.f9 ∧ W22 x.f10
theorem op24 : Opens Try.prog 24 k24 W24 := Opens.iso (fun x : S24 => (x.f0, x.f1, x.f2, x.f3, x.f4, x.f5, x.f6, x.f7, x.f8, x.f9, x.f10)) (fun p => ⟨p.1, p.2.1, p.2.2.1, p.2.2.2.1, p.2.2.2.2.1, p.2.2.2.2.2.1, p.2.2.2.2.2.2.1, p.2.2.2.2.2.2.2.1, p.2.2.2.2.2.2.2.2.1, p.2.2.2.2.2.2.2.2.2.1, p.2.2.2.2.2.2.2.2.2.2⟩) (fun _ => rfl) (Opens.struct (tot := 11) Try.underlying24 (by kernel_rfl) (OpensF.cons (s := 1) rfl (by kernel_rfl) op3 (OpensF.cons (s := 1) rfl (by kernel_rfl) op3 (OpensF.cons (s := 1) rfl (by kernel_rfl) op3 (OpensF.cons (s := 1) rfl (by kernel_rfl) op3 (OpensF.cons (s := 1) rfl (by kernel_rfl) op3 (OpensF.cons (s := 1) rfl (by kernel_rfl) op3 (OpensF.cons (s := 1) rfl (by kernel_rfl) op3 (OpensF.cons (s := 1) rfl (by kernel_rfl) op3 (OpensF.cons (s := 1) rfl (by kernel_rfl) op3 (OpensF.cons (s := 1) rfl (by kernel_rfl) op3 (OpensF.last rfl (by kernel_rfl) op22))))))))))))
def W9 (x : ByteArray) : Prop := x.size ≤ 140737488351232
theorem op9 : Opens Try.prog 9 Kd.string W9 := Opens.string Try.underlying9
def Pure : Prop := ∀ (x0 : S24) (x1 : Int) (x2 : ByteArray) (x3 : Int), W24 x0 → W3 x1 → W9 x2 → W3 x3 → ∃ k, l18BeatAlone.f k x0.f0 x0.f1 x0.f2 x0.f3 x0.f4 x0.f5 x0.f6 x0.f7 x0.f8 x0.f9 x0.f10 x1 x2 x3 = some true
end Go.Proofs.Ythblnnboeikgcaa.beatAlone
end
section
set_option linter.unusedVariables false
set_option linter.unusedSimpArgs false
namespace Go.Proofs.Ythblnnboeikgcaa.beatAlone
open Go.RowKit Go.Proofs.Ythblnnboeikgcaa.B Go.Proofs.YthblnnboeikgcaaW.PrintWords Go.Proofs.Ythblnnboeikgcaa.ConfLib Go.Proofs.Ythblnnboeikgcaa.KingLib Go.Proofs.Ythblnnboeikgcaa.VecLib Go.Proofs.Ythblnnboeikgcaa.PipeLib Go.Proofs.Ythblnnboeikgcaa.BeatLib
theorem known : Ev (fun k => l18known.f k) true := Ev.of l18known.mono (show l18known.f 1000 = some true by decide +kernel)
theorem last : Ev (fun k => (l18known.f k).bind fun t => some t) true := Ev.bind known (Ev.val rfl)
theorem pure : Pure := by
  rintro ⟨n, f, d, p, r, dr, o, s, m, fr, t⟩ a S i _ _ _ _
  refine Ev.rounds (r := true) ?_
  show Ev (fun k => l18BeatAlone.f k n f d p r dr o s m fr t a S i) true
  have out : Ev (fun k => l18BeatAlone.j0 k a S i true n f d p r dr o s m fr t) true := Ev.step (fun k => l18BeatAlone.j0.eq_2 ..) (Ev.pos rfl last)
  refine Ev.congr (fun k => l18BeatAlone.f.eq_1 ..) ?_
  by_cases h1 : (S.size : Int) > 200
  · exact Ev.pos h1 out
  refine Ev.neg h1 ?_
  by_cases h2 : i > 1000
  · rw [decide_eq_true h2]
    exact out
  rw [decide_eq_false h2]
  refine Ev.step (fun k => l18BeatAlone.j0.eq_2 ..) (Ev.neg Bool.false_ne_true ?_)
  refine Ev.bind (alone_ev n f d p r dr o s m fr t a S i) (Ev.bind (ref_alone_ev n f d p r dr o s m fr t a S i) ?_)
  exact Ev.pos rfl last
end Go.Proofs.Ythblnnboeikgcaa.beatAlone
end
