import Derived.Test.YtfannnojhkkaiaaYVecApart42
import Derived.Test.YtfannnojhkkaiaaYVecApart20
import Derived.Test.YtfannnojhkkaiaaYVecApart19
import Derived.Test.YtfannnojhkkaiaaYVecApart18
import Derived.Test.YtfannnojhkkaiaaYVecApart12
import Derived.Test.YtfannnojhkkaiaaYVecApart36
set_option linter.unusedVariables false
set_option linter.unusedSimpArgs false
namespace Go.Proofs.Ytfannnojhkkaiaa.ConfLib
open Go.RowKit Go.Proofs.Ytfannnojhkkaiaa.V Go.Proofs.YtfannnojhkkaiaaW.PrintWords
def nodesOk (n f : Int) : Prop := 4 ≤ n ∧ n ≤ 13 ∧ 0 ≤ f ∧ f ≤ 4 ∧ 3 * f < n
def delayOk (d : Int) : Prop := 1 ≤ d ∧ d ≤ 4
def numbersOk (f d p r dr o s m fr : Int) : Prop := 6 * (f + 1) * d + 1 ≤ p ∧ p ≤ 400 ∧ 1 ≤ r ∧ r ≤ 64 ∧ 0 ≤ dr ∧ dr ≤ r - 1 ∧ 0 ≤ o ∧ o ≤ 30000 ∧ 1 ≤ s ∧ s ≤ 30000 ∧ 2 ≤ m ∧ m ≤ 250 ∧ 1 ≤ fr ∧ fr ≤ 100
def tableOk (n : Int) (t : List Int) : Prop := 1 ≤ t.length ∧ t.length ≤ 32 ∧ conf_table.ok n t = true
instance (n f : Int) : Decidable (nodesOk n f) := by unfold nodesOk; exact inferInstance
instance (d : Int) : Decidable (delayOk d) := by unfold delayOk; exact inferInstance
instance (f d p r dr o s m fr : Int) : Decidable (numbersOk f d p r dr o s m fr) := by unfold numbersOk; exact inferInstance
instance (n : Int) (t : List Int) : Decidable (tableOk n t) := by unfold tableOk; exact inferInstance
def plain (n f d p r dr o s m fr : Int) (t : List Int) : Int :=
  if nodesOk n f then (if delayOk d then (if numbersOk f d p r dr o s m fr then (if tableOk n t then 0 else 11) else 8) else 10) else 7
theorem wrap_small {n : Int} (h0 : -9223372036854775808 ≤ n) (h1 : n ≤ 9223372036854775807) : wrap64 n = n := by
  unfold wrap64
  omega
theorem has_at (a b c : Int) : conf_span_has.f a b c = some (decide (a ≤ c ∧ c ≤ b)) := by
  unfold conf_span_has.f
  by_cases h : c ≥ a
  · rw [if_pos h]
    by_cases h2 : c ≤ b
    · rw [decide_eq_true h2, decide_eq_true ⟨h, h2⟩]
    · rw [decide_eq_false h2, decide_eq_false (fun q => h2 q.2)]
  · rw [if_neg h, decide_eq_false (fun q => h q.1)]
theorem nodes_at (n f d p r dr o s m fr : Int) (t : List Int) : conf_nodes.f n f d p r dr o s m fr t = some (decide (nodesOk n f)) := by
  unfold conf_nodes.f
  rw [has_at, has_at]
  simp only [Option.bind_some]
  by_cases h : 4 ≤ n ∧ n ≤ 13
  · rw [decide_eq_true h, if_pos rfl]
    by_cases h2 : 0 ≤ f ∧ f ≤ 4
    · rw [decide_eq_true h2, if_pos rfl, wrap_small (by omega) (by omega)]
      by_cases h3 : n > 3 * f
      · rw [decide_eq_true h3, decide_eq_true (by unfold nodesOk; omega)]
      · rw [decide_eq_false h3, decide_eq_false (by unfold nodesOk; omega)]
    · rw [decide_eq_false h2, if_neg (by decide), decide_eq_false (by unfold nodesOk; omega)]
  · rw [decide_eq_false h, if_neg (by decide), decide_eq_false (by unfold nodesOk; omega)]
def entryOk (x : S93) : Bool := decide (x.f1.f0 ≤ x.f0 ∧ x.f0 ≤ x.f1.f1)
theorem numbers_loop (l : List S93) (hl : l.length ≤ 100) (d : Nat) : ∀ (k i : Nat), i + d = l.length → d < k → conf_numbers.l0 k l (l.length : Int) (i : Int) = some ((l.drop i).all entryOk) := by
  induction d with
  | zero =>
    intro k i hi hk
    obtain ⟨k, rfl⟩ : ∃ m, k = m + 1 := ⟨k - 1, by omega⟩
    simp only [conf_numbers.l0]
    rw [if_neg (by omega), List.drop_of_length_le (by omega)]
    rfl
  | succ d ih =>
    intro k i hi hk
    obtain ⟨k, rfl⟩ : ∃ m, k = m + 1 := ⟨k - 1, by omega⟩
    have hlt : i < l.length := by omega
    simp only [conf_numbers.l0]
    have e : rd_T93 l (i : Int) = l[i] := by
      simp [rd_T93, List.getD_eq_getElem?_getD, hlt]
    rw [if_pos (by omega), if_pos (by omega), if_pos (by omega), e, has_at, List.drop_eq_getElem_cons hlt]
    simp only [Option.bind_some, List.all_cons]
    show (if entryOk l[i] = true then _ else _) = _
    by_cases h : entryOk l[i] = true
    · rw [if_pos h, h, wrap_small (by omega) (by omega), show ((i : Int) + 1) = ((i + 1 : Nat) : Int) by omega, ih k (i + 1) (by omega) (by omega)]
      rfl
    · rw [if_neg h]
      have h' : entryOk l[i] = false := by simpa using h
      rw [h']
      rfl
theorem numbers_at (n f d p r dr o s m fr : Int) (t : List Int) (hf : 0 ≤ f ∧ f ≤ 4) (hd : delayOk d) {k : Nat} (hk : 10 < k) : conf_numbers.f k n f d p r dr o s m fr t = some (decide (numbersOk f d p r dr o s m fr)) := by
  unfold conf_numbers.f
  simp only [Option.bind_some]
  have hw : wrap64 (wrap64 (wrap64 (6 * wrap64 (f + 1)) * d) + 1) = 6 * (f + 1) * d + 1 := by
    unfold delayOk at hd
    have hd2 : d = 1 ∨ d = 2 ∨ d = 3 ∨ d = 4 := by omega
    rw [wrap_small (n := f + 1) (by omega) (by omega), wrap_small (n := 6 * (f + 1)) (by omega) (by omega)]
    rcases hd2 with rfl | rfl | rfl | rfl <;> (rw [wrap_small (n := 6 * (f + 1) * _) (by omega) (by omega), wrap_small (by omega) (by omega)])
  rw [hw]
  refine (numbers_loop _ (by simp) 7 k 0 rfl (by omega)).trans ?_
  refine congrArg some ?_
  simp only [List.drop_zero, List.all_cons, List.all_nil, entryOk, Bool.and_true]
  rw [Bool.eq_iff_iff]
  simp only [Bool.and_eq_true, decide_eq_true_eq]
  unfold numbersOk
  have hr : ∀ h : 1 ≤ r ∧ r ≤ 64, wrap64 (r - 1) = r - 1 := fun h => wrap_small (by omega) (by omega)
  constructor
  · rintro ⟨a, b, c, e, g, i, j⟩
    rw [hr b] at c
    exact ⟨a.1, a.2, b.1, b.2, c.1, c.2, e.1, e.2, g.1, g.2, i.1, i.2, j.1, j.2⟩
  · rintro ⟨a, a2, b, b2, c, c2, e, e2, g, g2, i, i2, j, j2⟩
    rw [hr ⟨b, b2⟩]
    exact ⟨⟨a, a2⟩, ⟨b, b2⟩, ⟨c, c2⟩, ⟨e, e2⟩, ⟨g, g2⟩, ⟨i, i2⟩, ⟨j, j2⟩⟩
theorem table_at (n f d p r dr o s m fr : Int) (t : List Int) (hn : 0 ≤ n ∧ n ≤ 13) : conf_table.f n f d p r dr o s m fr t = some (decide (tableOk n t)) := by
  unfold conf_table.f
  by_cases h1 : 1 ≤ (t.length : Int)
  · rw [if_pos h1]
    by_cases h2 : (t.length : Int) ≤ 32
    · rw [if_pos h2, if_pos hn.1, if_pos hn.2]
      refine congrArg some ?_
      rw [Bool.eq_iff_iff, decide_eq_true_eq]
      exact ⟨fun h => ⟨by omega, by omega, h⟩, fun h => h.2.2⟩
    · rw [if_neg h2, decide_eq_false (fun h => by have := h.2.1; omega)]
  · rw [if_neg h1, decide_eq_false (fun h => by have := h.1; omega)]
theorem plain_at (n f d p r dr o s m fr : Int) (t : List Int) {k : Nat} (hk : 10 < k) : conf_Plain.f k n f d p r dr o s m fr t = some (plain n f d p r dr o s m fr t) := by
  unfold conf_Plain.f plain
  rw [nodes_at, has_at]
  simp only [Option.bind_some]
  by_cases h1 : nodesOk n f
  · rw [decide_eq_true h1, if_pos rfl, if_pos h1]
    by_cases h2 : delayOk d
    · have h2' : 1 ≤ d ∧ d ≤ 4 := h2
      rw [decide_eq_true h2', if_pos rfl, if_pos h2, numbers_at n f d p r dr o s m fr t (by unfold nodesOk at h1; omega) h2 hk]
      simp only [Option.bind_some]
      by_cases h3 : numbersOk f d p r dr o s m fr
      · rw [decide_eq_true h3, if_pos rfl, if_pos h3, table_at n f d p r dr o s m fr t (by unfold nodesOk at h1; omega)]
        simp only [Option.bind_some]
        by_cases h4 : tableOk n t
        · rw [decide_eq_true h4, if_pos rfl, if_pos h4]
        · rw [decide_eq_false h4, if_neg (by decide), if_neg h4]
      · rw [decide_eq_false h3, if_neg (by decide), if_neg h3]
    · have h2' : ¬ (1 ≤ d ∧ d ≤ 4) := h2
      rw [decide_eq_false h2', if_neg (by decide), if_neg h2]
  · rw [decide_eq_false h1, if_neg (by decide), if_neg h1]
theorem plain_zero {n f d p r dr o s m fr : Int} {t : List Int} : plain n f d p r dr o s m fr t = 0 ↔ nodesOk n f ∧ delayOk d ∧ numbersOk f d p r dr o s m fr ∧ tableOk n t := by
  unfold plain
  split
  · split
    · split
      · split
        · rename_i a b c e
          exact ⟨fun _ => ⟨a, b, c, e⟩, fun _ => rfl⟩
        · rename_i e
          exact ⟨fun h => absurd h (by decide), fun h => absurd h.2.2.2 e⟩
      · rename_i e
        exact ⟨fun h => absurd h (by decide), fun h => absurd h.2.2.1 e⟩
    · rename_i e
      exact ⟨fun h => absurd h (by decide), fun h => absurd h.2.1 e⟩
  · rename_i e
    exact ⟨fun h => absurd h (by decide), fun h => absurd h.1 e⟩
end Go.Proofs.Ytfannnojhkkaiaa.ConfLib
