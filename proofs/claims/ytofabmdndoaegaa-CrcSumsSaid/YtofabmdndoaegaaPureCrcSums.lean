/- The sums, the bytes with them and what is opened are the document's, of all bytes. -/
import Derived.Test.YtofabmdndoaegaaSCrcSums
import Derived.Test.YtofabmdndoaegaaCrcLib4
set_option linter.unusedVariables false
set_option linter.unusedSimpArgs false
namespace Go.Proofs.Ytofabmdndoaegaa.crcSums
open Go.RowKit Go.Proofs.Ytofabmdndoaegaa.X Go.Proofs.YtofabmdndoaegaaW.PrintWords Go.Proofs.Ytofabmdndoaegaa.Bytes Go.Proofs.Ytofabmdndoaegaa.CrcLib
theorem pure : Pure := by
  intro a _
  refine ⟨5000, ?_⟩
  unfold bellwetherlaw02_CrcSums.f
  by_cases h : (a.size : Int) > 400
  · rw [if_pos h, known_at (by omega)]
    rfl
  · rw [if_neg h, open_at a (by omega) (by omega), ref_open_at a (by omega) (by omega), sum_at a (by omega) (by omega), ref_sum_at a (by omega) (by omega), seal_at a (by omega) (by omega), ref_seal_at a (by omega) (by omega), known_at (by omega)]
    simp
end Go.Proofs.Ytofabmdndoaegaa.crcSums
