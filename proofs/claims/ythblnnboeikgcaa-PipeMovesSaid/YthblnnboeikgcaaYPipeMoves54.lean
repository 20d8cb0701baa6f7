import Derived.Test.YthblnnboeikgcaaYPipeMoves53
set_option linter.unusedVariables false
set_option linter.unusedSimpArgs false
namespace Go.Proofs.Ythblnnboeikgcaa.pipeMoves
open Go.RowKit Go.Proofs.Ythblnnboeikgcaa.P Go.Proofs.YthblnnboeikgcaaW.PrintWords Go.Proofs.Ythblnnboeikgcaa.ConfLib Go.Proofs.Ythblnnboeikgcaa.KingLib Go.Proofs.Ythblnnboeikgcaa.VecLib Go.Proofs.Ythblnnboeikgcaa.PipeLib
theorem known : Ev (fun k => l17known.f k) true := Ev.of l17known.mono (show l17known.f 1000 = some true by decide +kernel)
theorem last : Ev (fun k => (l17known.f k).bind fun t => some t) true := Ev.bind known (Ev.val rfl)
theorem pure : Pure := by
  rintro ⟨n, f, d, p, r, dr, o, s, m, fr, t⟩ a l _ _ _
  refine Ev.rounds (r := true) ?_
  show Ev (fun k => l17PipeMoves.f k n f d p r dr o s m fr t a l) true
  refine Ev.congr (fun k => l17PipeMoves.f.eq_1 ..) ?_
  by_cases h1 : (a.size : Int) > 100
  · exact Ev.pos h1 (Ev.step (fun k => l17PipeMoves.j0.eq_2 ..) (Ev.pos rfl last))
  refine Ev.neg h1 (Ev.step (fun k => l17PipeMoves.j0.eq_2 ..) ?_)
  by_cases h2 : (l.length : Int) > 20
  · exact Ev.pos (decide_eq_true h2) last
  refine Ev.neg (by simpa using h2) ?_
  refine Ev.bind (move_ev n f d p r dr o s m fr t l (by omega) a) (Ev.bind (ref_move_ev n f d p r dr o s m fr t l (by omega) a) ?_)
  exact Ev.pos rfl (Ev.pos rfl last)
end Go.Proofs.Ythblnnboeikgcaa.pipeMoves
