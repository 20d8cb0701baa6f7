/- What was sealed is opened as it was, and has four bytes more. -/
import Derived.Test.YtofabmdndoaegaaSCrcBack
import Derived.Test.YtofabmdndoaegaaCrcLib4
set_option linter.unusedVariables false
set_option linter.unusedSimpArgs false
namespace Go.Proofs.Ytofabmdndoaegaa.crcBack
open Go.RowKit Go.Proofs.Ytofabmdndoaegaa.X Go.Proofs.YtofabmdndoaegaaW.PrintWords Go.Proofs.Ytofabmdndoaegaa.Bytes Go.Proofs.Ytofabmdndoaegaa.CrcLib
theorem pure : Pure := by
  intro a _
  refine ⟨5000, ?_⟩
  unfold bellwetherlaw02_CrcBack.f
  by_cases h : (a.size : Int) > 400
  · rw [if_pos h, known_at (by omega)]
    rfl
  · have hl : a.data.toList.length = a.size := data_length a
    have hz : (⟨(sealed a.data.toList).toArray⟩ : ByteArray).size = a.size + 4 := by rw [size_list, ex, sealed, List.length_append, four_length, hl]
    rw [if_neg h, seal_at a (by omega) (by omega)]
    simp only [Option.bind_some]
    rw [open_at _ (by omega) (by omega)]
    simp only [Option.bind_some]
    have ho : opened ⟨(sealed a.data.toList).toArray⟩ = (a, 0) := by
      unfold opened
      rw [if_neg (by omega), hz, show a.size + 4 - 4 = a.size by omega, ex]
      have ht : (sealed a.data.toList).take a.size = a.data.toList := by rw [sealed, ← hl, List.take_left]
      have hd : (sealed a.data.toList).drop a.size = four (crc a.data.toList) := by rw [sealed, ← hl, List.drop_left]
      rw [ht, hd, if_pos rfl]
      refine congrArg (fun b => (b, (0 : Int))) (Bytes.ext ?_)
      rw [take_list, ex, ht]
    rw [ho, hz, if_pos rfl, if_pos rfl, Bytes.wrap_small (by omega) (by omega), if_pos (by omega), known_at (by omega)]
    rfl
end Go.Proofs.Ytofabmdndoaegaa.crcBack
