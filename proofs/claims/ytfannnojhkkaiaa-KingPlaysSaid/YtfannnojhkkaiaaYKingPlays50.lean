import Derived.Test.YtfannnojhkkaiaaYKingPlays41
import Derived.Test.YtfannnojhkkaiaaYKingPlays49
import Derived.Test.YtfannnojhkkaiaaYKingPlays30
set_option linter.unusedVariables false
set_option linter.unusedSimpArgs false
namespace Go.Proofs.Ytfannnojhkkaiaa.kingSteps
open Go.RowKit Go.Proofs.Ytfannnojhkkaiaa.X Go.Proofs.YtfannnojhkkaiaaW.PrintWords Go.Proofs.Ytfannnojhkkaiaa.ConfLib Go.Proofs.Ytfannnojhkkaiaa.KingLib
theorem known : Ev (fun k => bellwetherlaw14_known.f k) true := Ev.of bellwetherlaw14_known.mono (show bellwetherlaw14_known.f 1000 = some true by decide +kernel)
theorem last : Ev (fun k => (bellwetherlaw14_known.f k).bind fun t => some t) true := Ev.bind known (Ev.val rfl)
theorem same (x : Int × Bool) : (x.1 == x.1 && (x.2 == x.2)) = true := by simp
theorem pure : Pure := by
  rintro ⟨n, f, d, p, r, dr, o, s, m, fr, t⟩ x ⟨b0, b1⟩ l _ _ _ _
  refine Ev.rounds (r := true) ?_
  refine Ev.congr (fun k => bellwetherlaw14_KingSteps.f.eq_1 ..) ?_
  by_cases h1 : (l.length : Int) > 60
  · exact Ev.pos h1 last
  refine Ev.neg h1 ?_
  have key : ∀ v : Int, Ev (fun k => bellwetherlaw14_KingSteps.j0 k x l v n f d p r dr o s m fr t b0 b1) true := by
    intro v
    refine Ev.step (fun k => bellwetherlaw14_KingSteps.j0.eq_2 ..) ?_
    refine Ev.some_ (start_at x) (Ev.some_ (ref_start_at x) (Ev.pos (same _) ?_))
    refine Ev.bind (Ev.from 10 (fun k hk => step_at n f d p r dr o s m fr t x b0 b1 v l (by omega) hk)) ?_
    refine Ev.bind (Ev.from 1010 (fun k hk => ref_step_at n f d p r dr o s m fr t x b0 b1 v l (by omega) hk)) ?_
    refine Ev.pos (same _) (Ev.some_ (code_at b0 b1) (Ev.some_ (ref_code_at b0 b1) (Ev.pos rfl (Ev.some_ (read_at x) (Ev.some_ (ref_read_at x) (Ev.pos (same _) ?_))))))
    by_cases h2 : b0 < 0
    · exact Ev.pos h2 last
    refine Ev.neg h2 ?_
    by_cases h3 : b0 > 2
    · exact Ev.pos h3 last
    refine Ev.neg h3 (Ev.some_ (code_at b0 b1) (Ev.some_ (read_at _) (Ev.pos ?_ last)))
    rw [read_code b0 b1 (by omega)]
    simp
  by_cases h2 : (l.length : Int) > 0
  · exact Ev.pos h2 (Ev.pos (by omega) (key _))
  · exact Ev.neg h2 (key _)
end Go.Proofs.Ytfannnojhkkaiaa.kingSteps
