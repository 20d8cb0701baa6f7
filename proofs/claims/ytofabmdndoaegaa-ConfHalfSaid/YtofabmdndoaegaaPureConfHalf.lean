/- Of what is plain an instance takes less than half a period. -/
import Derived.Test.YtofabmdndoaegaaSConfHalf
import Derived.Test.YtofabmdndoaegaaConfLib2
import Derived.Test.YtofabmdndoaegaaXx11
set_option linter.unusedVariables false
set_option linter.unusedSimpArgs false
namespace Go.Proofs.Ytofabmdndoaegaa.confHalf
open Go.RowKit Go.Proofs.Ytofabmdndoaegaa.X Go.Proofs.YtofabmdndoaegaaW.PrintWords Go.Proofs.Ytofabmdndoaegaa.ConfLib
theorem known : bellwetherlaw03_known.f 1000 = some true := by decide +kernel
theorem pure : Pure := by
  rintro ⟨n, f, d, p, r, dr, o, s, m, fr, t⟩ _
  refine ⟨1000, ?_⟩
  unfold bellwetherlaw03_ConfHalf.f
  simp only [plain_at n f d p r dr o s m fr t (show 10 < 1000 by decide), rounds_at n f d p r dr o s m fr t (show 10 < 1000 by decide), length_at n f d p r dr o s m fr t (show 10 < 1000 by decide), bits_at n f d p r dr o s m fr t (show 10 < 1000 by decide), known, Option.bind_some]
  unfold ConfLib.rounds ConfLib.length ConfLib.bits
  by_cases h : plain n f d p r dr o s m fr t = 0
  · have hb := plain_facts h
    have hm := mul_d (f := f) (d := d) (by omega) (by omega)
    rw [if_pos h, if_pos h, if_pos h, if_pos h, ConfLib.wrap_small (n := 2 * _) (by omega) (by omega), if_pos (by omega), w3 (by omega), if_pos rfl, ConfLib.wrap_small (n := 3 * (f + 1) * d) (by omega) (by omega), if_pos rfl, ConfLib.wrap_small (n := n - f) (by omega) (by omega), ConfLib.wrap_small (n := 3 * (n - f)) (by omega) (by omega), ConfLib.wrap_small (n := 2 * n) (by omega) (by omega), if_pos (by omega), if_pos (by omega)]
  · rw [if_neg h, if_neg h, if_neg h, if_neg h]
    simp
end Go.Proofs.Ytofabmdndoaegaa.confHalf
