import Derived.Test.YtfdkmeokfmgfhaaYPortMoves33
import Derived.Test.YtfdkmeokfmgfhaaYPortMoves37
import Derived.Test.YtfdkmeokfmgfhaaYPortMoves26
set_option linter.unusedVariables false
set_option linter.unusedSimpArgs false
namespace Go.Proofs.Ytfdkmeokfmgfhaa.portMoves
open Go.RowKit Go.Proofs.Ytfdkmeokfmgfhaa.X Go.Proofs.YtfdkmeokfmgfhaaW.PrintWords Go.Proofs.Ytfdkmeokfmgfhaa.ConfLib Go.Proofs.Ytfdkmeokfmgfhaa.PortLib
theorem alive : bellwetherlaw26_alive.f 2000 = some true := by decide +kernel
theorem pure : Pure := by
  rintro ⟨n, f, d, p, r, dr, o, s, m, fr, t⟩ l ds _ _ _
  refine ⟨2001, ?_⟩
  have hb := blank_len n f d p r dr o s m fr t
  have hc := cop_len n f d p r dr o s m fr t l
  have key : ∀ x14 : Bool, ((l.length : Int) ≤ 40 ∧ (ds.length : Int) ≤ 40 ∨ x14 = true) → bellwetherlaw26_PortMoves.j0 2001 l ds x14 n f d p r dr o s m fr t = some true := by
    intro x hx
    rw [show (2001 : Nat) = 2000 + 1 from rfl]
    simp only [bellwetherlaw26_PortMoves.j0]
    cases x with
    | true => rw [if_pos rfl, alive]; rfl
    | false =>
      obtain ⟨hl, hd⟩ : (l.length : Int) ≤ 40 ∧ (ds.length : Int) ≤ 40 := by rcases hx with hx | hx; exact hx; cases hx
      rw [if_neg (by decide), blank_at n f d p r dr o s m fr t (by decide), ref_blank_at n f d p r dr o s m fr t (by decide)]
      simp only [Option.bind_some]
      rw [same_at _ (by omega) (by decide)]
      simp only [Option.bind_some]
      rw [if_pos trivial, put_at n f d p r dr o s m fr t l ds (by omega) (by decide), ref_put_at n f d p r dr o s m fr t l ds (by omega) (by decide)]
      simp only [Option.bind_some]
      rw [same_at _ (by rw [puts_len]; omega) (by decide)]
      simp only [Option.bind_some]
      rw [if_pos trivial, older_at n f d p r dr o s m fr t l (by decide), ref_older_at n f d p r dr o s m fr t l (by decide)]
      simp only [Option.bind_some]
      rw [same_at _ (by rw [List.length_map]; omega) (by decide)]
      simp only [Option.bind_some]
      rw [if_pos trivial, alive]
      rfl
  unfold bellwetherlaw26_PortMoves.f
  by_cases h1 : (l.length : Int) > 40
  · rw [if_pos h1]
    exact key true (.inr rfl)
  · rw [if_neg h1]
    refine key _ ?_
    by_cases h2 : (ds.length : Int) > 40
    · exact .inr (decide_eq_true h2)
    · exact .inl ⟨by omega, by omega⟩
end Go.Proofs.Ytfdkmeokfmgfhaa.portMoves
