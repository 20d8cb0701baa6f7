import Derived.Test.YthblnnboeikgcaaYBeatNext50
set_option linter.unusedVariables false
set_option linter.unusedSimpArgs false
namespace Go.Proofs.Ythblnnboeikgcaa.beatNext
open Go.RowKit Go.Proofs.Ythblnnboeikgcaa.B Go.Proofs.YthblnnboeikgcaaW.PrintWords Go.Proofs.Ythblnnboeikgcaa.ConfLib Go.Proofs.Ythblnnboeikgcaa.KingLib Go.Proofs.Ythblnnboeikgcaa.VecLib Go.Proofs.Ythblnnboeikgcaa.PipeLib Go.Proofs.Ythblnnboeikgcaa.BeatLib
theorem known : Ev (fun k => l18known.f k) true := Ev.of l18known.mono (show l18known.f 1000 = some true by decide +kernel)
theorem last : Ev (fun k => (l18known.f k).bind fun t => some t) true := Ev.bind known (Ev.val rfl)
theorem pure : Pure := by
  rintro ⟨n, f, d, p, r, dr, o, s, m, fr, t⟩ a g b _ _ _ _
  refine Ev.rounds (r := true) ?_
  show Ev (fun k => l18BeatNext.f k n f d p r dr o s m fr t a g b) true
  refine Ev.congr (fun k => l18BeatNext.f.eq_1 ..) ?_
  refine Ev.bind (Ev.from 10 (fun k hk => next_at n f d p r dr o s m fr t a g b hk)) (Ev.bind (Ev.from 1000 (fun k hk => ref_next_at n f d p r dr o s m fr t a g b hk)) ?_)
  refine Ev.bind (Ev.from 10 (fun k hk => bit_at n f d p r dr o s m fr t a hk)) (Ev.bind (Ev.from 1000 (fun k hk => ref_bit_at n f d p r dr o s m fr t a hk)) ?_)
  exact Ev.pos rfl (Ev.pos rfl (Ev.pos rfl last))
end Go.Proofs.Ythblnnboeikgcaa.beatNext
