/- What is held behind any frame that comes, or why it is not, is the document's. -/
import Derived.Test.YtfdkmeokfmgfhaaSHoldPuts
import Derived.Test.YtfdkmeokfmgfhaaHoldLib
import Derived.Test.YtfdkmeokfmgfhaaXx11
set_option linter.unusedVariables false
set_option linter.unusedSimpArgs false
namespace Go.Proofs.Ytfdkmeokfmgfhaa.holdPuts
open Go.RowKit Go.Proofs.Ytfdkmeokfmgfhaa.X Go.Proofs.YtfdkmeokfmgfhaaW.PrintWords Go.Proofs.Ytfdkmeokfmgfhaa.ConfLib Go.Proofs.Ytfdkmeokfmgfhaa.HoldLib
theorem known : bellwetherlaw12_known.f 2000 = some true := by decide +kernel
theorem pure : Pure := by
  rintro ⟨n, f, d, p, r, dr, o, s, m, fr, t⟩ l ⟨x, a, b⟩ _ _ ⟨hx, ha, _⟩
  refine ⟨2000, ?_⟩
  unfold bellwetherlaw12_HoldPuts.f
  by_cases hl : (l.length : Int) > 100
  · rw [if_pos hl, known]
    rfl
  · rw [if_neg hl, put_at n f d p r dr o s m fr t l x a b (by decide), ref_put_at n f d p r dr o s m fr t l x a b hx ha (by omega) (by decide)]
    simp only [Option.bind_some]
    have h1 : (put n f d p r dr o s m fr t l x a b).1.length ≤ 1000 := by
      unfold put
      split
      · simp only [List.length_set]
        omega
      · simp
    have h2 : (empty n f d p r dr o s m fr t).length ≤ 1000 := by
      unfold empty
      split
      · rename_i hp
        have hb := plain_facts hp
        have hm := nd_facts (n := n) (d := d) (by omega) (by omega)
        rw [List.length_replicate]
        omega
      · simp
    simp only [same_at _ h1 (show 1000 < 2000 by decide), empty_at n f d p r dr o s m fr t (show 10 < 2000 by decide), ref_empty_at n f d p r dr o s m fr t (show 800 < 2000 by decide), same_at _ h2 (show 1000 < 2000 by decide), known, Option.bind_some, if_true]
end Go.Proofs.Ytfdkmeokfmgfhaa.holdPuts
