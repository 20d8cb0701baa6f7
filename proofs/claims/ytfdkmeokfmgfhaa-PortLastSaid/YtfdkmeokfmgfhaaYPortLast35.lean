import Derived.Test.YtfdkmeokfmgfhaaYPortLast34
set_option linter.unusedVariables false
set_option linter.unusedSimpArgs false
namespace Go.Proofs.Ytfdkmeokfmgfhaa.ConfLib
open Go.RowKit Go.Proofs.Ytfdkmeokfmgfhaa.X Go.Proofs.YtfdkmeokfmgfhaaW.PrintWords Go.Proofs.YtfdkmeokfmgfhaaW.PrintMore
def length (n f d p r dr o s m fr : Int) (t : List Int) : Int := if plain n f d p r dr o s m fr t = 0 then 3 * (f + 1) * d else 0
theorem plain_facts {n f d p r dr o s m fr : Int} {t : List Int} (h : plain n f d p r dr o s m fr t = 0) : 4 ≤ n ∧ n ≤ 13 ∧ 0 ≤ f ∧ f ≤ 4 ∧ 3 * f < n ∧ 1 ≤ d ∧ d ≤ 4 ∧ 6 * (f + 1) * d + 1 ≤ p ∧ p ≤ 400 := by
  obtain ⟨h1, h2, h3, h4⟩ := plain_zero.1 h
  unfold nodesOk at h1
  unfold delayOk at h2
  unfold numbersOk at h3
  exact ⟨h1.1, h1.2.1, h1.2.2.1, h1.2.2.2.1, h1.2.2.2.2, h2.1, h2.2, h3.1, h3.2.1⟩
theorem w3 {f : Int} (hf : 0 ≤ f ∧ f ≤ 4) : wrap64 (3 * wrap64 (f + 1)) = 3 * (f + 1) := by
  rw [wrap_small (n := f + 1) (by omega) (by omega), wrap_small (by omega) (by omega)]
end Go.Proofs.Ytfdkmeokfmgfhaa.ConfLib
