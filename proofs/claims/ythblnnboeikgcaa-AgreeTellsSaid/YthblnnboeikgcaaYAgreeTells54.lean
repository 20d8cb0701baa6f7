import Derived.Test.YthblnnboeikgcaaYAgreeTells42
import Derived.Test.YthblnnboeikgcaaYAgreeTells53
import Derived.Test.YthblnnboeikgcaaYAgreeTells35
set_option linter.unusedVariables false
set_option linter.unusedSimpArgs false
namespace Go.Proofs.Ythblnnboeikgcaa.agreeTells
open Go.RowKit Go.Proofs.Ythblnnboeikgcaa.X Go.Proofs.YthblnnboeikgcaaW.PrintWords Go.Proofs.Ythblnnboeikgcaa.ConfLib Go.Proofs.Ythblnnboeikgcaa.KingLib Go.Proofs.Ythblnnboeikgcaa.VecLib Go.Proofs.Ythblnnboeikgcaa.AgreeLib
theorem known : Ev (fun k => bellwetherlaw19_known.f k) true := Ev.of bellwetherlaw19_known.mono (show bellwetherlaw19_known.f 1000 = some true by decide +kernel)
theorem last : Ev (fun k => (bellwetherlaw19_known.f k).bind fun t => some t) true := Ev.bind known (Ev.val rfl)
theorem pure : Pure := by
  rintro ⟨n, f, d, p, r, dr, o, s, m, fr, t⟩ x z ⟨age, codes, agreed⟩ _ hx _ hw
  have hx2 := Bytes.wf64 hx
  have ha : (Lit.int .i64 age).wf = true := hw.1
  refine Ev.rounds (r := true) ?_
  show Ev (fun k => bellwetherlaw19_AgreeTells.f k n f d p r dr o s m fr t x z age codes agreed) true
  refine Ev.congr (fun k => bellwetherlaw19_AgreeTells.f.eq_1 ..) ?_
  by_cases h1 : (z.size : Int) > 60
  · exact Ev.pos h1 (Ev.step (fun k => bellwetherlaw19_AgreeTells.j0.eq_2 ..) (Ev.pos rfl last))
  refine Ev.neg h1 (Ev.step (fun k => bellwetherlaw19_AgreeTells.j0.eq_2 ..) ?_)
  by_cases h2 : (codes.size : Int) > 60
  · exact Ev.pos (decide_eq_true h2) last
  refine Ev.neg (by simpa using h2) ?_
  refine Ev.bind (tell_ev n f d p r dr o s m fr t age ha codes (by omega)) (Ev.bind (ref_tell_ev n f d p r dr o s m fr t age codes (by omega)) ?_)
  refine Ev.bind (begin_ev n f d p r dr o s m fr t x hx2.2 z) (Ev.bind (ref_begin_ev n f d p r dr o s m fr t x hx2.2 z) ?_)
  exact Ev.pos rfl (Ev.pos rfl (Ev.pos rfl last))
end Go.Proofs.Ythblnnboeikgcaa.agreeTells
