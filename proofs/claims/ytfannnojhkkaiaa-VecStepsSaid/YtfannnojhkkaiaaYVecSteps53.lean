import Derived.Test.YtfannnojhkkaiaaYVecSteps43
import Derived.Test.YtfannnojhkkaiaaYVecSteps52
import Derived.Test.YtfannnojhkkaiaaYVecSteps35
set_option linter.unusedVariables false
set_option linter.unusedSimpArgs false
namespace Go.Proofs.Ytfannnojhkkaiaa.vecSteps
open Go.RowKit Go.Proofs.Ytfannnojhkkaiaa.V Go.Proofs.YtfannnojhkkaiaaW.PrintWords Go.Proofs.Ytfannnojhkkaiaa.ConfLib Go.Proofs.Ytfannnojhkkaiaa.KingLib Go.Proofs.Ytfannnojhkkaiaa.VecLib
theorem known : Ev (fun k => bellwetherlaw16_known.f k) true := Ev.of bellwetherlaw16_known.mono (show bellwetherlaw16_known.f 1000 = some true by decide +kernel)
theorem last : Ev (fun k => (bellwetherlaw16_known.f k).bind fun t => some t) true := Ev.bind known (Ev.val rfl)
theorem pure : Pure := by
  rintro ⟨n, f, d, p, r, dr, o, s, m, fr, t⟩ x z l _ _ _ _
  refine Ev.rounds (r := true) ?_
  refine Ev.congr (fun k => bellwetherlaw16_VecSteps.f.eq_1 ..) ?_
  show Ev (fun k => if (z.size : Int) > 40 then (bellwetherlaw16_VecSteps.j0 k x z l true n f d p r dr o s m fr t) else (bellwetherlaw16_VecSteps.j0 k x z l (decide ((l.length : Int) > 20)) n f d p r dr o s m fr t)) true
  by_cases h1 : (z.size : Int) > 40
  · exact Ev.pos h1 (Ev.step (fun k => bellwetherlaw16_VecSteps.j0.eq_2 ..) (Ev.pos rfl last))
  refine Ev.neg h1 (Ev.step (fun k => bellwetherlaw16_VecSteps.j0.eq_2 ..) ?_)
  by_cases h2 : (l.length : Int) > 20
  · exact Ev.pos (decide_eq_true h2) last
  refine Ev.neg (by simpa using h2) ?_
  have key : ∀ v : ByteArray, Ev (fun k => bellwetherlaw16_VecSteps.j1 k x z l v n f d p r dr o s m fr t) true := by
    intro v
    refine Ev.step (fun k => bellwetherlaw16_VecSteps.j1.eq_2 ..) ?_
    refine Ev.some_ (of_at z (by omega)) (Ev.bind (ref_of_ev z (by omega)) (Ev.pos rfl ?_))
    refine Ev.some_ (values_at z (by omega)) (Ev.bind (ref_values_ev z (by omega)) (Ev.pos rfl ?_))
    refine Ev.bind (Ev.from 10 (fun k hk => vstep_at n f d p r dr o s m fr t x z v l (by omega) (by omega) hk)) ?_
    exact Ev.bind (ref_vstep_ev n f d p r dr o s m fr t x z v l (by omega) (by omega)) (Ev.pos rfl last)
  by_cases h3 : (l.length : Int) > 0
  · exact Ev.pos h3 (Ev.pos h3 (key _))
  · exact Ev.neg h3 (key _)
end Go.Proofs.Ytfannnojhkkaiaa.vecSteps
