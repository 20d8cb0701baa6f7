import Derived.Test.YtfannnojhkkaiaaYKingAgrees38
import Derived.Test.YtfannnojhkkaiaaYKingAgrees47
import Derived.Test.YtfannnojhkkaiaaYKingAgrees50
set_option linter.unusedVariables false
set_option linter.unusedSimpArgs false
namespace Go.Proofs.Ytfannnojhkkaiaa.kingAgrees
open Go.RowKit Go.Proofs.Ytfannnojhkkaiaa.X Go.Proofs.YtfannnojhkkaiaaW.PrintWords Go.Proofs.Ytfannnojhkkaiaa.ConfLib Go.Proofs.Ytfannnojhkkaiaa.KingLib Go.Proofs.Ytfannnojhkkaiaa.kingSteps
theorem pure : Pure := by
  rintro ⟨n, f, d, p, r, dr, o, s, m, fr, t⟩ bits F L _ _ _ _
  refine Ev.rounds (r := true) ?_
  show Ev (fun k => bellwetherlaw14_KingAgrees.f k n f d p r dr o s m fr t bits F L) true
  refine Ev.congr (fun k => bellwetherlaw14_KingAgrees.f.eq_1 ..) ?_
  refine Ev.bind (few_ev n f d p r dr o s m fr t F) ?_
  by_cases hfew : few n f d p r dr o s m fr t F = true
  · refine Ev.pos hfew ?_
    obtain ⟨hp, hF, hc⟩ := of_decide_eq_true hfew
    have hb := plain_facts hp
    have hbad : KingMath.bad n.toNat (hon F) ≤ f.toNat := by rw [bad_count]; omega
    refine Ev.bind (Ev.from 30 (fun k hk => play_at n f d p r dr o s m fr t F L hF bits hk)) ?_
    have hl := play_len n f d p r dr o s m fr t F L hp bits
    refine Ev.pos (by omega) ?_
    obtain ⟨w, hw, h⟩ := play_agrees n f d p r dr o s m fr t F L hp hbad bits
    obtain ⟨z, hz, hzh⟩ := KingMath.some_king hbad (by omega)
    have hzc : F.contains (z : Int) = false := by
      unfold hon at hzh
      simpa using hzh
    generalize play n f d p r dr o s m fr t F L bits = T at hl h
    have key : ∀ (q i : Nat) (v : Int), i + q = n.toNat → (v = w ∨ v = -1 ∧ i ≤ z) → Ev (fun k => bellwetherlaw14_KingAgrees.l0 k F T v (i : Int) n f d p r dr o s m fr t) true := by
      intro q
      induction q with
      | zero =>
        intro i v hi hv
        refine Ev.step (fun k => bellwetherlaw14_KingAgrees.l0.eq_2 ..) ?_
        exact Ev.neg (by omega) (Ev.pos (by omega) last)
      | succ q ih =>
        intro i v hi hv
        refine Ev.step (fun k => bellwetherlaw14_KingAgrees.l0.eq_2 ..) ?_
        refine Ev.pos (by omega) (Ev.bind (in_ev F (by omega) (i : Int)) ?_)
        by_cases hcc : F.contains (i : Int) = true
        · refine Ev.pos hcc ?_
          rw [succ_w (by omega)]
          have hiz : i ≠ z := fun e => by rw [e, hzc] at hcc; cases hcc
          exact ih (i + 1) v (by omega) (by omega)
        · have hcf : F.contains (i : Int) = false := by simpa using hcc
          have hT := h i (by omega) hcf
          have go := ih (i + 1) w (by omega) (.inl rfl)
          rw [← succ_w (by omega)] at go
          refine Ev.neg hcc (Ev.pos (by omega) (Ev.pos (by omega) ?_))
          rw [hT]
          rcases hw with e | e
          · refine Ev.pos e ?_
            by_cases hv0 : v ≥ 0
            · exact Ev.pos hv0 (Ev.pos (by omega) go)
            · exact Ev.neg hv0 go
          · refine Ev.neg (by omega) (Ev.pos e ?_)
            by_cases hv0 : v ≥ 0
            · exact Ev.pos hv0 (Ev.pos (by omega) go)
            · exact Ev.neg hv0 go
    exact key n.toNat 0 (-1) (by omega) (.inr ⟨rfl, by omega⟩)
  · exact Ev.neg hfew last
end Go.Proofs.Ytfannnojhkkaiaa.kingAgrees
