/- What is read of any port is what the document says. -/
import Derived.Test.YtfdkmeokfmgfhaaSPortReads
import Derived.Test.YtfdkmeokfmgfhaaPortLib
import Derived.Test.YtfdkmeokfmgfhaaXx14
set_option linter.unusedVariables false
set_option linter.unusedSimpArgs false
namespace Go.Proofs.Ytfdkmeokfmgfhaa.portReads
open Go.RowKit Go.Proofs.Ytfdkmeokfmgfhaa.X Go.Proofs.YtfdkmeokfmgfhaaW.PrintWords Go.Proofs.Ytfdkmeokfmgfhaa.ConfLib Go.Proofs.Ytfdkmeokfmgfhaa.PortLib
theorem alive : bellwetherlaw26_alive.f 2000 = some true := by decide +kernel
theorem pure : Pure := by
  rintro ⟨n, f, d, p, r, dr, o, s, m, fr, t⟩ l i _ _ _
  refine ⟨2000, ?_⟩
  unfold bellwetherlaw26_PortReads.f
  by_cases h1 : (l.length : Int) > 40
  · rw [if_pos h1, alive]
    rfl
  · rw [if_neg h1, read_at n f d p r dr o s m fr t l i (by decide), ref_read_at n f d p r dr o s m fr t l i (by decide)]
    simp only [Option.bind_some]
    rw [if_pos trivial, if_pos trivial, if_pos (by simp), alive]
    rfl
end Go.Proofs.Ytfdkmeokfmgfhaa.portReads
