/- Words of this session beside the print's: a whole number put into a row of one's own that has been made, and read out of it. -/
import Derived.Test.YtofabmdndoaegaaXw
set_option linter.unusedVariables false
set_option linter.unusedSimpArgs false
namespace Go.Proofs.Ytofabmdndoaegaa.KW
open Go.RowKit Go.Proofs.YtofabmdndoaegaaW.PrintWords
section
variable {W : World} {e base g m cap : Nat} {ok : Nat → Prop} {k : IntKind} {xs : List Int}
theorem put_int (h : (Kd.int k).R e W base ok (.slice (some ⟨g, 0, none⟩) m cap) xs) (hm : xs.length = m) (j : Nat) (x : Int) : (Kd.int k).R e (W.setCell ⟨g, j, none⟩ (.int k x)) base ok (.slice (some ⟨g, 0, none⟩) m cap) (xs.set j x) := by
  subst hm
  have := (Kd.R_put (enc := Value.int k) (h1 := fun _ => rfl) h (j : Int) x).1
  rwa [Int.toNat_natCast] at this
theorem get_int (h : (Kd.int k).R e W base ok (.slice (some ⟨g, 0, none⟩) m cap) xs) (hm : xs.length = m) {j : Nat} (hj : j < m) : W.cell? ⟨g, j, none⟩ = some (.int k (rd xs (j : Int))) ∧ W.frozen? ⟨g, j, none⟩ = false := by
  subst hm
  have := Kd.R_cell (enc := Value.int k) (h1 := fun _ => rfl) (0 : Int) h (j : Int) (by omega) (by omega)
  rwa [Int.toNat_natCast] at this
end
/-- A row of which the first j elements are laid, the others are z. -/
def part {α : Type} (z : α) (V : List α) (m j : Nat) : List α := V.take j ++ List.replicate (m - j) z
theorem part_len {α : Type} {z : α} {V : List α} {m j : Nat} (hV : V.length = m) (hj : j ≤ m) : (part z V m j).length = m := by
  unfold part
  rw [List.length_append, List.length_take, List.length_replicate]
  omega
theorem part_zero {α : Type} (z : α) (V : List α) (m : Nat) : part z V m 0 = List.replicate m z := by simp [part]
theorem part_all {α : Type} {z : α} {V : List α} {m : Nat} (hV : V.length = m) : part z V m m = V := by
  unfold part
  rw [Nat.sub_self, List.replicate_zero, List.append_nil, List.take_of_length_le (by omega)]
theorem part_set {α : Type} {z : α} {V : List α} {m j : Nat} (hV : V.length = m) (hj : j < m) : (part z V m j).set j (V.getD j z) = part z V m (j + 1) := by
  unfold part
  have h1 : (V.take j).length = j := by rw [List.length_take]; omega
  rw [List.set_append_right _ _ (by omega), h1, Nat.sub_self, show m - j = (m - (j + 1)) + 1 by omega, List.replicate_succ, List.set_cons_zero, List.take_succ_eq_append_getElem (by omega : j < V.length), List.append_assoc, List.singleton_append, List.getD_eq_getElem?_getD, List.getElem?_eq_getElem (by omega : j < V.length)]
  rfl
theorem part_put {α : Type} {z : α} {V : List α} {m j : Nat} {x : α} (hV : V.length = m) (hj : j < m) (hx : V.getD j z = x) : (part z V m j).set j x = part z V m (j + 1) := by
  rw [← hx]
  exact part_set hV hj
theorem getD_range {α : Type} (f : Nat → α) (z : α) {m j : Nat} (hj : j < m) : ((List.range m).map f).getD j z = f j := by
  simp [List.getD_eq_getElem?_getD, hj]
theorem drewN_below {w : World} (n : Nat) : Below w.heap.size w (w.drewN n) := pw_below_drewN (Below.refl _ _) n
end Go.Proofs.Ytofabmdndoaegaa.KW
