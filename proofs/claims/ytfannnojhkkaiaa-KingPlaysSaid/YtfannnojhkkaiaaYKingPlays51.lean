import Derived.Test.YtfannnojhkkaiaaYKingPlays39
import Derived.Test.YtfannnojhkkaiaaYKingPlays50
set_option linter.unusedVariables false
set_option linter.unusedSimpArgs false
namespace Go.Proofs.Ytfannnojhkkaiaa.kingPlays
open Go.RowKit Go.Proofs.Ytfannnojhkkaiaa.X Go.Proofs.YtfannnojhkkaiaaW.PrintWords Go.Proofs.Ytfannnojhkkaiaa.ConfLib Go.Proofs.Ytfannnojhkkaiaa.KingLib Go.Proofs.Ytfannnojhkkaiaa.kingSteps
theorem play_small (n f d p r dr o s m fr : Int) (t F L bits : List Int) : (play n f d p r dr o s m fr t F L bits).length ≤ 13 := by
  unfold play
  split
  · rename_i hp
    have hb := plain_facts hp
    rw [king_play_ends.ends_len, run_len n f d p r dr o s m fr t F L _ _ _ (king_Play.first_len n bits)]
    omega
  · simp
theorem pure : Pure := by
  rintro ⟨n, f, d, p, r, dr, o, s, m, fr, t⟩ bits F L _ _ _ _
  refine Ev.rounds (r := true) ?_
  refine Ev.congr (fun k => bellwetherlaw14_KingPlays.f.eq_1 ..) ?_
  have key : ∀ b : Bool, (b = false → F.length ≤ 20) → Ev (fun k => bellwetherlaw14_KingPlays.j0 k bits F L b n f d p r dr o s m fr t) true := by
    intro b hb
    refine Ev.step (fun k => bellwetherlaw14_KingPlays.j0.eq_2 ..) ?_
    cases b with
    | true => exact Ev.pos rfl last
    | false =>
      have hF := hb rfl
      refine Ev.neg (by decide) ?_
      refine Ev.bind (Ev.from 30 (fun k hk => play_at n f d p r dr o s m fr t F L hF bits hk)) ?_
      refine Ev.bind (ref_play_ev n f d p r dr o s m fr t F L (by omega) bits) ?_
      refine Ev.bind (ints_same _ (Nat.le_trans (play_small n f d p r dr o s m fr t F L bits) (by decide))) ?_
      exact Ev.pos rfl last
  by_cases h1 : (bits.length : Int) > 20
  · exact Ev.pos h1 (key true (fun h => by cases h))
  refine Ev.neg h1 ?_
  by_cases h2 : (F.length : Int) > 20
  · exact Ev.pos h2 (key true (fun h => by cases h))
  exact Ev.neg h2 (key _ (fun _ => by omega))
end Go.Proofs.Ytfannnojhkkaiaa.kingPlays
