import Derived.Test.YthblnnboeikgcaaYAgreeSteps42
import Derived.Test.YthblnnboeikgcaaYAgreeSteps53
import Derived.Test.YthblnnboeikgcaaYAgreeSteps31
set_option linter.unusedVariables false
set_option linter.unusedSimpArgs false
namespace Go.Proofs.Ythblnnboeikgcaa.agreeSteps
open Go.RowKit Go.Proofs.Ythblnnboeikgcaa.X Go.Proofs.YthblnnboeikgcaaW.PrintWords Go.Proofs.Ythblnnboeikgcaa.ConfLib Go.Proofs.Ythblnnboeikgcaa.KingLib Go.Proofs.Ythblnnboeikgcaa.VecLib Go.Proofs.Ythblnnboeikgcaa.AgreeLib
theorem known : Ev (fun k => bellwetherlaw19_known.f k) true := Ev.of bellwetherlaw19_known.mono (show bellwetherlaw19_known.f 1000 = some true by decide +kernel)
theorem last : Ev (fun k => (bellwetherlaw19_known.f k).bind fun t => some t) true := Ev.bind known (Ev.val rfl)
theorem pure : Pure := by
  rintro ⟨n, f, d, p, r, dr, o, s, m, fr, t⟩ ⟨age, codes, agreed⟩ l _ _ _
  refine Ev.rounds (r := true) ?_
  show Ev (fun k => bellwetherlaw19_AgreeSteps.f k n f d p r dr o s m fr t age codes agreed l) true
  refine Ev.congr (fun k => bellwetherlaw19_AgreeSteps.f.eq_1 ..) ?_
  by_cases h1 : (codes.size : Int) > 60
  · exact Ev.pos h1 (Ev.step (fun k => bellwetherlaw19_AgreeSteps.j0.eq_2 ..) (Ev.pos rfl last))
  refine Ev.neg h1 (Ev.step (fun k => bellwetherlaw19_AgreeSteps.j0.eq_2 ..) ?_)
  by_cases h2 : (l.length : Int) > 20
  · exact Ev.pos (decide_eq_true h2) last
  refine Ev.neg (by simpa using h2) ?_
  refine Ev.bind (step_ev n f d p r dr o s m fr t age codes agreed (by omega) l (by omega)) (Ev.bind (ref_step_ev n f d p r dr o s m fr t age codes agreed (by omega) l (by omega)) ?_)
  exact Ev.pos rfl (Ev.pos rfl (Ev.pos rfl last))
end Go.Proofs.Ythblnnboeikgcaa.agreeSteps
