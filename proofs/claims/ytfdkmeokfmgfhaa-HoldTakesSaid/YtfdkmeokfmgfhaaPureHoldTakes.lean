/- What is for this tick, what is held behind it, and how many are held of any node, are the document's. -/
import Derived.Test.YtfdkmeokfmgfhaaSHoldTakes
import Derived.Test.YtfdkmeokfmgfhaaHoldLib2
import Derived.Test.YtfdkmeokfmgfhaaXx11
set_option linter.unusedVariables false
set_option linter.unusedSimpArgs false
namespace Go.Proofs.Ytfdkmeokfmgfhaa.holdTakes
open Go.RowKit Go.Proofs.Ytfdkmeokfmgfhaa.X Go.Proofs.YtfdkmeokfmgfhaaW.PrintWords Go.Proofs.Ytfdkmeokfmgfhaa.ConfLib Go.Proofs.Ytfdkmeokfmgfhaa.HoldLib
theorem known : bellwetherlaw12_known.f 2000 = some true := by decide +kernel
theorem pure : Pure := by
  rintro ⟨n, f, d, p, r, dr, o, s, m, fr, t⟩ l x _ _ _
  refine ⟨2000, ?_⟩
  unfold bellwetherlaw12_HoldTakes.f
  by_cases hl : (l.length : Int) > 100
  · rw [if_pos hl, known]
    rfl
  · have h := take_len n f d p r dr o s m fr t l
    rw [if_neg hl, take_at n f d p r dr o s m fr t l (by decide), ref_take_at n f d p r dr o s m fr t l (by decide)]
    simp only [Option.bind_some, same_at _ (show (take n f d p r dr o s m fr t l).1.length ≤ 1000 by omega) (show 1000 < 2000 by decide), same_at _ (show (take n f d p r dr o s m fr t l).2.length ≤ 1000 by omega) (show 1000 < 2000 by decide), held_at n f d p r dr o s m fr t l x (show 10 < 2000 by decide), ref_held_at n f d p r dr o s m fr t l x (show 800 < 2000 by decide), known, if_true]
end Go.Proofs.Ytfdkmeokfmgfhaa.holdTakes
