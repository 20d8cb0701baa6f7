import Derived.Test.YtfannnojhkkaiaaYTallyCounts27
import Derived.Test.YtfannnojhkkaiaaYTallyCounts32
import Derived.Test.YtfannnojhkkaiaaYTallyCounts21
set_option linter.unusedVariables false
set_option linter.unusedSimpArgs false
namespace Go.Proofs.Ytfannnojhkkaiaa.tallyCounts
open Go.RowKit Go.Proofs.Ytfannnojhkkaiaa.X Go.Proofs.YtfannnojhkkaiaaW.PrintWords Go.Proofs.Ytfannnojhkkaiaa.ConfLib Go.Proofs.Ytfannnojhkkaiaa.TallyLib
theorem known : bellwetherlaw13_known.f 2000 = some true := by decide +kernel
theorem pure : Pure := by
  rintro ⟨n, f, d, p, r, dr, o, s, m, fr, t⟩ v now l _ _ _ _
  refine ⟨2000, ?_⟩
  unfold bellwetherlaw13_TallyCounts.f
  by_cases h : (l.length : Int) > 60
  · rw [if_pos h, known]
    rfl
  · rw [if_neg h]
    have a1 : 10 < 2000 := by decide
    have a2 : 1000 < 2000 := by decide
    have a3 : 1010 < 2000 := by decide
    have hl : l.length ≤ 1000 := by omega
    have hl2 : l.length ≤ 1000000 := by omega
    simp only [quorum_at n f d p r dr o s m fr t a1, some_at n f d p r dr o s m fr t a1, ref_quorum_at n f d p r dr o s m fr t a2, ref_some_at n f d p r dr o s m fr t a2, count_at v l hl2, ref_count_at v l hl a2, enough_at n f d p r dr o s m fr t v l hl2 a1, ref_enough_at n f d p r dr o s m fr t v l hl a2, most_at n f d p r dr o s m fr t l hl2 a1, ref_most_at n f d p r dr o s m fr t l hl a2, least_at n f d p r dr o s m fr t now l hl2 a1, ref_least_at n f d p r dr o s m fr t now l hl a3, known, Option.bind_some, if_true, beq_self_eq_true]
end Go.Proofs.Ytfannnojhkkaiaa.tallyCounts
