import Derived.Test.YtfdkmeokfmgfhaaYPortLast36
set_option linter.unusedVariables false
set_option linter.unusedSimpArgs false
namespace Go.Proofs.Ytfdkmeokfmgfhaa.PortLib
open Go.RowKit Go.Proofs.Ytfdkmeokfmgfhaa.X Go.Proofs.YtfdkmeokfmgfhaaW.PrintWords Go.Proofs.Ytfdkmeokfmgfhaa.ConfLib
theorem rd_put (l : List S43) (o : S38) (i : Int) (h : 0 ≤ i) (hne : o.f0 ≠ i) : rd_T43 (put l o) i = rd_T43 l i := by
  unfold put
  split
  · rename_i hc
    simp only [rd_T43, List.getD_eq_getElem?_getD]
    rw [List.getElem?_set_ne (by omega)]
  · rfl
theorem rd_put_same (l : List S43) (o : S38) (h : 0 ≤ o.f0) (h1 : o.f0 < (l.length : Int)) : rd_T43 (put l o) o.f0 = ⟨o.f3, o.f2, 0⟩ := by
  unfold put
  rw [if_pos ⟨h, h1⟩]
  simp only [rd_T43, List.getD_eq_getElem?_getD]
  rw [List.getElem?_set_self (by omega)]
  rfl
theorem cop_same {n f d p r dr o s m fr : Int} {t : List Int} (h : plain n f d p r dr o s m fr t = 0) (l : List S43) (hl : (l.length : Int) = n) : cop n f d p r dr o s m fr t l = l := by
  unfold cop
  rw [if_pos h, if_pos hl]
end Go.Proofs.Ytfdkmeokfmgfhaa.PortLib
