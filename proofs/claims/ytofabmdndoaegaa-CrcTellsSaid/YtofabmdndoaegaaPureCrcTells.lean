/- Sealed bytes of which one is another one are refused. -/
import Derived.Test.YtofabmdndoaegaaSCrcTells
import Derived.Test.YtofabmdndoaegaaCrcLib4
set_option linter.unusedVariables false
set_option linter.unusedSimpArgs false
namespace Go.Proofs.Ytofabmdndoaegaa.crcTells
open Go.RowKit Go.Proofs.Ytofabmdndoaegaa.X Go.Proofs.YtofabmdndoaegaaW.PrintWords Go.Proofs.Ytofabmdndoaegaa.Bytes Go.Proofs.Ytofabmdndoaegaa.CrcLib
theorem other_list {l : List UInt8} {i : Nat} (h : i < l.length) (b : UInt8) : l.take i ++ [b] ++ l.drop (i + 1) = l.set i b := by
  rw [List.set_eq_take_append_cons_drop, if_pos h]
  simp
/-- One byte that is another one: it is not opened. -/
theorem refused (l : List UInt8) (i : Nat) (hi : i < (sealed l).length) (b : UInt8) (hb : (sealed l)[i] ≠ b) : opened ⟨((sealed l).set i b).toArray⟩ = (⟨#[]⟩, 4) := by
  have hs : (sealed l).length = l.length + 4 := by rw [sealed, List.length_append, four_length]
  have hz : (⟨((sealed l).set i b).toArray⟩ : ByteArray).size = l.length + 4 := by rw [size_list, ex, List.length_set, hs]
  unfold opened
  rw [if_neg (by omega), hz, show l.length + 4 - 4 = l.length by omega, ex]
  rw [if_neg]
  intro h
  rcases Nat.lt_or_ge i l.length with hlt | hge
  · have hg : (sealed l)[i] = l[i] := by simp only [sealed, List.getElem_append_left hlt]
    have h1 : (sealed l).set i b = l.set i b ++ four (crc l) := by rw [sealed, List.set_append_left _ _ hlt]
    have hl2 : (l.set i b).length = l.length := List.length_set
    rw [h1, ← hl2, List.drop_left, List.take_left] at h
    have h2 := four_inj (crc_lt l) (crc_lt _) h
    have h3 : l = l.take i ++ l[i] :: l.drop (i + 1) := by rw [List.getElem_cons_drop, List.take_append_drop]
    rw [List.set_eq_take_append_cons_drop, if_pos hlt] at h2
    have h4 := crc_other (l.take i) (l.drop (i + 1)) l[i] b (by rw [← hg]; exact hb)
    rw [← h3] at h4
    exact h4 h2
  · obtain ⟨j, rfl⟩ : ∃ j, i = l.length + j := ⟨i - l.length, by omega⟩
    have h1 : (sealed l).set (l.length + j) b = l ++ (four (crc l)).set j b := by
      rw [sealed, List.set_append_right _ _ (by omega)]
      rw [show l.length + j - l.length = j by omega]
    have hj : j < (four (crc l)).length := by rw [four_length]; omega
    have hg : (sealed l)[l.length + j] = (four (crc l))[j] := by simp only [sealed, List.getElem_append_right (Nat.le_add_right _ _), Nat.add_sub_cancel_left]
    rw [h1, List.drop_left, List.take_left] at h
    have h2 : ((four (crc l)).set j b)[j]'(by rw [List.length_set]; exact hj) = b := List.getElem_set_self _
    have h3 : ((four (crc l)).set j b)[j]? = (four (crc l))[j]? := by rw [h]
    rw [List.getElem?_eq_getElem (by rw [List.length_set]; exact hj), List.getElem?_eq_getElem hj, h2] at h3
    exact hb (by rw [hg]; exact (Option.some.inj h3).symm)
theorem pure : Pure := by
  intro a i b _ hi hb
  have wi := wf64 hi
  have wb := wf8 hb
  have hl : a.data.toList.length = a.size := data_length a
  have hs : (sealed a.data.toList).length = a.size + 4 := by rw [sealed, List.length_append, four_length, hl]
  have hz : (⟨(sealed a.data.toList).toArray⟩ : ByteArray).size = a.size + 4 := by rw [size_list, ex, hs]
  refine ⟨a.size + 5000, ?_⟩
  have hj : ∀ (x : ByteArray), bellwetherlaw02_CrcTells.j0 (a.size + 5000) i b x true = some true := by
    intro x
    rw [show a.size + 5000 = (a.size + 4999) + 1 by omega]
    simp only [bellwetherlaw02_CrcTells.j0]
    rw [if_pos trivial, known_at (by omega)]
    rfl
  unfold bellwetherlaw02_CrcTells.f
  rw [seal_at a (by unfold crcTells.W9 at *; omega) (by omega)]
  simp only [Option.bind_some]
  by_cases h1 : (a.size : Int) > 200
  · rw [if_pos h1, hj]
  rw [if_neg h1]
  by_cases h2 : i < 0
  · rw [if_pos h2, hj]
  rw [if_neg h2, hz]
  by_cases h3 : i ≥ ((a.size + 4 : Nat) : Int)
  · rw [if_pos h3, hj]
  rw [if_neg h3, if_pos (by omega), if_pos (by omega)]
  obtain ⟨n, rfl⟩ := Int.eq_ofNat_of_zero_le (by omega : 0 ≤ i)
  have hn : n < (sealed a.data.toList).length := by omega
  have hbt : bt ⟨(sealed a.data.toList).toArray⟩ (n : Int) = ((sealed a.data.toList)[n].toNat : Int) := by
    rw [Bytes.bt_nat _ _ (by omega)]
  rw [hbt]
  by_cases h4 : (((sealed a.data.toList)[n].toNat : Int) == b) = true
  · rw [h4, hj]
  · have h4' : (((sealed a.data.toList)[n].toNat : Int) == b) = false := by simpa using h4
    rw [h4', show a.size + 5000 = (a.size + 4999) + 1 by omega]
    simp only [bellwetherlaw02_CrcTells.j0]
    rw [if_neg (by decide), if_pos (by omega), if_pos (by omega)]
    simp only [Option.bind_some]
    have hso : (strOfNums [b]).size = 1 := strOfNums_size _
    rw [hso, Bytes.wrap_small (by omega) (by omega), if_pos (by omega), if_pos (by omega), if_pos (by omega), if_pos (by omega)]
    have e : (⟨(sealed a.data.toList).toArray⟩ : ByteArray).extract 0 ((n : Int)).toNat ++ strOfNums [b] ++ (⟨(sealed a.data.toList).toArray⟩ : ByteArray).extract ((n : Int) + 1).toNat (⟨(sealed a.data.toList).toArray⟩ : ByteArray).size = ⟨((sealed a.data.toList).set n (UInt8.ofNat b.toNat)).toArray⟩ := by
      refine Bytes.ext ?_
      rw [append_list, append_list, take_list, drop_list, ex, ex, strOfNums_data]
      rw [show ((n : Int) + 1).toNat = n + 1 by omega, Int.toNat_natCast]
      exact other_list hn _
    rw [e, open_at _ (by rw [size_list, ex, List.length_set]; omega) (by rw [size_list, ex, List.length_set]; omega), refused _ n hn _ (by
      intro hc
      apply h4
      rw [hc, UInt8.toNat_ofNat', beq_iff_eq]
      omega)]
    simp only [Option.bind_some]
    rw [if_pos (by rw [ByteArray.toList_eq]), if_pos trivial, known_at (by omega)]
    rfl
end Go.Proofs.Ytofabmdndoaegaa.crcTells
