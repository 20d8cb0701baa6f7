import Derived.Test.YtbfnkdgjcpcmbaaYWireWrites44
import Derived.Test.YtbfnkdgjcpcmbaaYWireWrites14
import Derived.Test.YtbfnkdgjcpcmbaaYWireWrites26
set_option linter.unusedVariables false
set_option linter.unusedSimpArgs false
namespace Go.Proofs.Ytbfnkdgjcpcmbaa.ConfLib
open Go.RowKit Go.Proofs.Ytbfnkdgjcpcmbaa.X Go.Proofs.YtbfnkdgjcpcmbaaW.PrintWords
def nodesOk (n f : Int) : Prop := 4 ≤ n ∧ n ≤ 13 ∧ 0 ≤ f ∧ f ≤ 4 ∧ 3 * f < n
def delayOk (d : Int) : Prop := 1 ≤ d ∧ d ≤ 4
def numbersOk (f d p r dr o s m fr : Int) : Prop := 6 * (f + 1) * d + 1 ≤ p ∧ p ≤ 400 ∧ 1 ≤ r ∧ r ≤ 64 ∧ 0 ≤ dr ∧ dr ≤ r - 1 ∧ 0 ≤ o ∧ o ≤ 30000 ∧ 1 ≤ s ∧ s ≤ 30000 ∧ 2 ≤ m ∧ m ≤ 250 ∧ 1 ≤ fr ∧ fr ≤ 100
def tableOk (n : Int) (t : List Int) : Prop := 1 ≤ t.length ∧ t.length ≤ 32 ∧ conf_table.ok n t = true
instance (n f : Int) : Decidable (nodesOk n f) := by unfold nodesOk; exact inferInstance
instance (d : Int) : Decidable (delayOk d) := by unfold delayOk; exact inferInstance
instance (f d p r dr o s m fr : Int) : Decidable (numbersOk f d p r dr o s m fr) := by unfold numbersOk; exact inferInstance
instance (n : Int) (t : List Int) : Decidable (tableOk n t) := by unfold tableOk; exact inferInstance
def plain (n f d p r dr o s m fr : Int) (t : List Int) : Int :=
  if nodesOk n f then (if delayOk d then (if numbersOk f d p r dr o s m fr then (if tableOk n t then 0 else 11) else 8) else 10) else 7
theorem wrap_small {n : Int} (h0 : -9223372036854775808 ≤ n) (h1 : n ≤ 9223372036854775807) : wrap64 n = n := by
  unfold wrap64
  omega
theorem has_at (a b c : Int) : conf_span_has.f a b c = some (decide (a ≤ c ∧ c ≤ b)) := by
  unfold conf_span_has.f
  by_cases h : c ≥ a
  · rw [if_pos h]
    by_cases h2 : c ≤ b
    · rw [decide_eq_true h2, decide_eq_true ⟨h, h2⟩]
    · rw [decide_eq_false h2, decide_eq_false (fun q => h2 q.2)]
  · rw [if_neg h, decide_eq_false (fun q => h q.1)]
theorem within_at (c a b : Int) : r03within.f c a b = some (decide (a ≤ c ∧ c ≤ b)) := by
  unfold r03within.f
  by_cases h : c ≥ a
  · rw [if_pos h]
    by_cases h2 : c ≤ b
    · rw [decide_eq_true h2, decide_eq_true ⟨h, h2⟩]
    · rw [decide_eq_false h2, decide_eq_false (fun q => h2 q.2)]
  · rw [if_neg h, decide_eq_false (fun q => h q.1)]
theorem nodes_at (n f d p r dr o s m fr : Int) (t : List Int) : conf_nodes.f n f d p r dr o s m fr t = some (decide (nodesOk n f)) := by
  unfold conf_nodes.f
  rw [has_at, has_at]
  simp only [Option.bind_some]
  by_cases h : 4 ≤ n ∧ n ≤ 13
  · rw [decide_eq_true h, if_pos rfl]
    by_cases h2 : 0 ≤ f ∧ f ≤ 4
    · rw [decide_eq_true h2, if_pos rfl, wrap_small (by omega) (by omega)]
      by_cases h3 : n > 3 * f
      · rw [decide_eq_true h3, decide_eq_true (by unfold nodesOk; omega)]
      · rw [decide_eq_false h3, decide_eq_false (by unfold nodesOk; omega)]
    · rw [decide_eq_false h2, if_neg (by decide), decide_eq_false (by unfold nodesOk; omega)]
  · rw [decide_eq_false h, if_neg (by decide), decide_eq_false (by unfold nodesOk; omega)]
def entryOk (x : S95) : Bool := decide (x.f1.f0 ≤ x.f0 ∧ x.f0 ≤ x.f1.f1)
theorem numbers_loop (l : List S95) (hl : l.length ≤ 100) (d : Nat) : ∀ (k i : Nat), i + d = l.length → d < k → conf_numbers.l0 k l (l.length : Int) (i : Int) = some ((l.drop i).all entryOk) := by
  induction d with
  | zero =>
    intro k i hi hk
    obtain ⟨k, rfl⟩ : ∃ m, k = m + 1 := ⟨k - 1, by omega⟩
    simp only [conf_numbers.l0]
    rw [if_neg (by omega), List.drop_of_length_le (by omega)]
    rfl
  | succ d ih =>
    intro k i hi hk
    obtain ⟨k, rfl⟩ : ∃ m, k = m + 1 := ⟨k - 1, by omega⟩
    have hlt : i < l.length := by omega
    simp only [conf_numbers.l0]
    have e : rd_T95 l (i : Int) = l[i] := by
      simp [rd_T95, List.getD_eq_getElem?_getD, hlt]
    rw [if_pos (by omega), if_pos (by omega), if_pos (by omega), e, has_at, List.drop_eq_getElem_cons hlt]
    simp only [Option.bind_some, List.all_cons]
    show (if entryOk l[i] = true then _ else _) = _
    by_cases h : entryOk l[i] = true
    · rw [if_pos h, h, wrap_small (by omega) (by omega), show ((i : Int) + 1) = ((i + 1 : Nat) : Int) by omega, ih k (i + 1) (by omega) (by omega)]
      rfl
    · rw [if_neg h]
      have h' : entryOk l[i] = false := by simpa using h
      rw [h']
      rfl
theorem numbers_at (n f d p r dr o s m fr : Int) (t : List Int) (hf : 0 ≤ f ∧ f ≤ 4) (hd : delayOk d) {k : Nat} (hk : 10 < k) : conf_numbers.f k n f d p r dr o s m fr t = some (decide (numbersOk f d p r dr o s m fr)) := by
  unfold conf_numbers.f
  simp only [Option.bind_some]
  have hw : wrap64 (wrap64 (wrap64 (6 * wrap64 (f + 1)) * d) + 1) = 6 * (f + 1) * d + 1 := by
    unfold delayOk at hd
    have hd2 : d = 1 ∨ d = 2 ∨ d = 3 ∨ d = 4 := by omega
    rw [wrap_small (n := f + 1) (by omega) (by omega), wrap_small (n := 6 * (f + 1)) (by omega) (by omega)]
    rcases hd2 with rfl | rfl | rfl | rfl <;> (rw [wrap_small (n := 6 * (f + 1) * _) (by omega) (by omega), wrap_small (by omega) (by omega)])
  rw [hw]
  refine (numbers_loop _ (by simp) 7 k 0 rfl (by omega)).trans ?_
  refine congrArg some ?_
  simp only [List.drop_zero, List.all_cons, List.all_nil, entryOk, Bool.and_true]
  rw [Bool.eq_iff_iff]
  simp only [Bool.and_eq_true, decide_eq_true_eq]
  unfold numbersOk
  have hr : ∀ h : 1 ≤ r ∧ r ≤ 64, wrap64 (r - 1) = r - 1 := fun h => wrap_small (by omega) (by omega)
  constructor
  · rintro ⟨a, b, c, e, g, i, j⟩
    rw [hr b] at c
    exact ⟨a.1, a.2, b.1, b.2, c.1, c.2, e.1, e.2, g.1, g.2, i.1, i.2, j.1, j.2⟩
  · rintro ⟨a, a2, b, b2, c, c2, e, e2, g, g2, i, i2, j, j2⟩
    rw [hr ⟨b, b2⟩]
    exact ⟨⟨a, a2⟩, ⟨b, b2⟩, ⟨c, c2⟩, ⟨e, e2⟩, ⟨g, g2⟩, ⟨i, i2⟩, ⟨j, j2⟩⟩
theorem table_at (n f d p r dr o s m fr : Int) (t : List Int) (hn : 0 ≤ n ∧ n ≤ 13) : conf_table.f n f d p r dr o s m fr t = some (decide (tableOk n t)) := by
  unfold conf_table.f
  by_cases h1 : 1 ≤ (t.length : Int)
  · rw [if_pos h1]
    by_cases h2 : (t.length : Int) ≤ 32
    · rw [if_pos h2, if_pos hn.1, if_pos hn.2]
      refine congrArg some ?_
      rw [Bool.eq_iff_iff, decide_eq_true_eq]
      exact ⟨fun h => ⟨by omega, by omega, h⟩, fun h => h.2.2⟩
    · rw [if_neg h2, decide_eq_false (fun h => by have := h.2.1; omega)]
  · rw [if_neg h1, decide_eq_false (fun h => by have := h.1; omega)]
theorem plain_at (n f d p r dr o s m fr : Int) (t : List Int) {k : Nat} (hk : 10 < k) : conf_Plain.f k n f d p r dr o s m fr t = some (plain n f d p r dr o s m fr t) := by
  unfold conf_Plain.f plain
  rw [nodes_at, has_at]
  simp only [Option.bind_some]
  by_cases h1 : nodesOk n f
  · rw [decide_eq_true h1, if_pos rfl, if_pos h1]
    by_cases h2 : delayOk d
    · have h2' : 1 ≤ d ∧ d ≤ 4 := h2
      rw [decide_eq_true h2', if_pos rfl, if_pos h2, numbers_at n f d p r dr o s m fr t (by unfold nodesOk at h1; omega) h2 hk]
      simp only [Option.bind_some]
      by_cases h3 : numbersOk f d p r dr o s m fr
      · rw [decide_eq_true h3, if_pos rfl, if_pos h3, table_at n f d p r dr o s m fr t (by unfold nodesOk at h1; omega)]
        simp only [Option.bind_some]
        by_cases h4 : tableOk n t
        · rw [decide_eq_true h4, if_pos rfl, if_pos h4]
        · rw [decide_eq_false h4, if_neg (by decide), if_neg h4]
      · rw [decide_eq_false h3, if_neg (by decide), if_neg h3]
    · have h2' : ¬ (1 ≤ d ∧ d ≤ 4) := h2
      rw [decide_eq_false h2', if_neg (by decide), if_neg h2]
  · rw [decide_eq_false h1, if_neg (by decide), if_neg h1]
theorem rd_at {l : List Int} {i : Nat} (h : i < l.length) : rd l (i : Int) = l[i] := by simp [rd, List.getD_eq_getElem?_getD, h]
theorem owned2 (n f d p r dr o s m fr : Int) (t : List Int) (ht : t.length ≤ 32) (q : Nat) : ∀ (k i : Nat) (b : Bool) (x : Int), i + q = t.length → q < k →
    r03owned.l2 k x b (i : Int) n f d p r dr o s m fr t = if b || (t.drop i).contains x then r03owned.l1 (k - q - 1) (wrap64 (x + 1)) n f d p r dr o s m fr t else some false := by
  induction q with
  | zero =>
    intro k i b x hi hk
    obtain ⟨k, rfl⟩ : ∃ m, k = m + 1 := ⟨k - 1, by omega⟩
    simp only [r03owned.l2]
    rw [if_neg (by omega), List.drop_of_length_le (by omega)]
    simp
  | succ q ih =>
    intro k i b x hi hk
    obtain ⟨k, rfl⟩ : ∃ m, k = m + 1 := ⟨k - 1, by omega⟩
    have hlt : i < t.length := by omega
    simp only [r03owned.l2]
    rw [if_pos (by omega), List.drop_eq_getElem_cons hlt, wrap_small (n := (i : Int) + 1) (by omega) (by omega), show ((i : Int) + 1) = ((i + 1 : Nat) : Int) by omega, show k + 1 - (q + 1) - 1 = k - q - 1 by omega]
    cases b with
    | true =>
      rw [if_pos rfl, ih k (i + 1) true x (by omega) (by omega)]
      simp
    | false =>
      rw [if_neg (by decide), if_pos (by omega), rd_at hlt, ih k (i + 1) _ x (by omega) (by omega), Bool.false_or, List.contains_cons]
      have : (t[i] == x) = (x == t[i]) := by rw [Bool.eq_iff_iff, beq_iff_eq, beq_iff_eq]; exact ⟨Eq.symm, Eq.symm⟩
      rw [this]
theorem owned1 (n f d p r dr o s m fr : Int) (t : List Int) (ht : t.length ≤ 32) (hn : n ≤ 13) (q : Nat) : ∀ (k i : Nat), (i : Int) + q = n → 40 * (q + 1) < k →
    r03owned.l1 k (i : Int) n f d p r dr o s m fr t = some ((List.range q).all fun j => t.contains (((i + j : Nat) : Int))) := by
  induction q with
  | zero =>
    intro k i hi hk
    obtain ⟨k, rfl⟩ : ∃ m, k = m + 1 := ⟨k - 1, by omega⟩
    simp only [r03owned.l1]
    rw [if_neg (by omega)]
    rfl
  | succ q ih =>
    intro k i hi hk
    obtain ⟨k, rfl⟩ : ∃ m, k = m + 1 := ⟨k - 1, by omega⟩
    simp only [r03owned.l1]
    rw [if_pos (by omega)]
    have h2 := owned2 n f d p r dr o s m fr t ht t.length k 0 false i (by omega) (by omega)
    rw [show ((0 : Nat) : Int) = 0 from rfl] at h2
    rw [h2, List.drop_zero, Bool.false_or, wrap_small (by omega) (by omega), show ((i : Int) + 1) = ((i + 1 : Nat) : Int) by omega, ih _ (i + 1) (by omega) (by omega), List.range_succ_eq_map, List.all_cons, List.all_map]
    simp only [Nat.add_zero]
    by_cases h : t.contains (i : Int) = true
    · rw [if_pos h, h, Bool.true_and]
      refine congrArg some ?_
      congr 1
      funext j
      simp only [Function.comp]
      rw [show i + 1 + j = i + (j + 1) by omega]
    · rw [if_neg h]
      have : t.contains (i : Int) = false := by simpa using h
      rw [this]
      rfl
theorem owned0 (n f d p r dr o s m fr : Int) (t : List Int) (ht : t.length ≤ 32) (hn : 0 ≤ n ∧ n ≤ 13) (q : Nat) : ∀ (k i : Nat), i + q = t.length → q + 600 < k →
    r03owned.l0 k (i : Int) n f d p r dr o s m fr t = some ((t.drop i).all (fun x => decide (0 ≤ x) && decide (x < n)) && (List.range n.toNat).all fun j => t.contains (j : Int)) := by
  induction q with
  | zero =>
    intro k i hi hk
    obtain ⟨k, rfl⟩ : ∃ m, k = m + 1 := ⟨k - 1, by omega⟩
    simp only [r03owned.l0]
    have h1 := owned1 n f d p r dr o s m fr t ht hn.2 n.toNat k 0 (by omega) (by omega)
    rw [show ((0 : Nat) : Int) = 0 from rfl] at h1
    rw [if_neg (by omega), List.drop_of_length_le (by omega), h1]
    simp
  | succ q ih =>
    intro k i hi hk
    obtain ⟨k, rfl⟩ : ∃ m, k = m + 1 := ⟨k - 1, by omega⟩
    have hlt : i < t.length := by omega
    simp only [r03owned.l0]
    rw [if_pos (by omega), if_pos (by omega), rd_at hlt, within_at, wrap_small (n := n - 1) (by omega) (by omega), List.drop_eq_getElem_cons hlt]
    simp only [Option.bind_some, List.all_cons]
    by_cases h : 0 ≤ t[i] ∧ t[i] ≤ n - 1
    · rw [decide_eq_true h, if_pos rfl, wrap_small (by omega) (by omega), show ((i : Int) + 1) = ((i + 1 : Nat) : Int) by omega, ih k (i + 1) (by omega) (by omega), decide_eq_true h.1, decide_eq_true (by omega : t[i] < n)]
      simp
    · rw [decide_eq_false h, if_neg (by decide)]
      have : (decide (0 ≤ t[i]) && decide (t[i] < n)) = false := by
        rw [Bool.and_eq_false_iff, decide_eq_false_iff_not, decide_eq_false_iff_not]
        omega
      rw [this]
      rfl
theorem ref_plain_at (n f d p r dr o s m fr : Int) (t : List Int) {k : Nat} (hk : 700 < k) : r03Plain.f k n f d p r dr o s m fr t = some (plain n f d p r dr o s m fr t) := by
  obtain ⟨k, rfl⟩ : ∃ q, k = q + 2 := ⟨k - 2, by omega⟩
  unfold r03Plain.f
  simp only [within_at, Option.bind_some, r03Plain.j0, r03Plain.j1]
  unfold plain
  by_cases h1 : nodesOk n f
  · have h1' := h1
    unfold nodesOk at h1'
    rw [decide_eq_true (⟨h1'.1, h1'.2.1⟩ : 4 ≤ n ∧ n ≤ 13), if_pos rfl, decide_eq_true (⟨h1'.2.2.1, h1'.2.2.2.1⟩ : 0 ≤ f ∧ f ≤ 4), if_pos rfl, wrap_small (n := 3 * f) (by omega) (by omega), decide_eq_false (by omega), if_neg (by decide), if_pos h1]
    by_cases h2 : delayOk d
    · have h2' : 1 ≤ d ∧ d ≤ 4 := h2
      have hw : wrap64 (wrap64 (wrap64 (6 * wrap64 (f + 1)) * d) + 1) = 6 * (f + 1) * d + 1 := by
        have hd2 : d = 1 ∨ d = 2 ∨ d = 3 ∨ d = 4 := by omega
        rw [wrap_small (n := f + 1) (by omega) (by omega), wrap_small (n := 6 * (f + 1)) (by omega) (by omega)]
        rcases hd2 with rfl | rfl | rfl | rfl <;> (rw [wrap_small (n := 6 * (f + 1) * _) (by omega) (by omega), wrap_small (by omega) (by omega)])
      rw [decide_eq_true h2', if_pos rfl, if_pos h2, hw]
      have key : ∀ z : Option Int, (∀ b : Bool, (if b = true then some 8 else z) = if b then some 8 else z) := fun _ _ => rfl
      have ho := owned0 n f d p r dr o s m fr t
      by_cases h3 : numbersOk f d p r dr o s m fr
      · have h3' := h3
        unfold numbersOk at h3'
        obtain ⟨a, a2, b, b2, c, c2, e, e2, g, g2, i, i2, j, j2⟩ := h3'
        rw [wrap_small (n := r - 1) (by omega) (by omega)]
        rw [decide_eq_true (⟨a, a2⟩ : _ ∧ _), if_pos rfl, decide_eq_true (⟨b, b2⟩ : _ ∧ _), if_pos rfl, decide_eq_true (⟨c, c2⟩ : _ ∧ _), if_pos rfl, decide_eq_true (⟨e, e2⟩ : _ ∧ _), if_pos rfl, decide_eq_true (⟨g, g2⟩ : _ ∧ _), if_pos rfl, decide_eq_true (⟨i, i2⟩ : _ ∧ _), if_pos rfl, decide_eq_true (⟨j, j2⟩ : _ ∧ _), if_neg (by decide), if_pos h3]
        by_cases h4 : 1 ≤ (t.length : Int) ∧ (t.length : Int) ≤ 32
        · rw [decide_eq_true h4, if_pos rfl]
          unfold r03owned.f
          have h5 := ho (by omega) (by omega) t.length k 0 (by omega) (by omega)
          rw [show ((0 : Nat) : Int) = 0 from rfl] at h5
          rw [h5, List.drop_zero]
          simp only [Option.bind_some]
          show (if conf_table.ok n t = true then _ else _) = _
          by_cases h6 : conf_table.ok n t = true
          · rw [if_pos h6, if_pos (c := tableOk n t) ⟨by omega, by omega, h6⟩]
          · rw [if_neg h6, if_neg (fun q : tableOk n t => h6 q.2.2)]
        · rw [decide_eq_false h4, if_neg (by decide), if_neg (fun q : tableOk n t => h4 ⟨by have := q.1; omega, by have := q.2.1; omega⟩)]
      · rw [if_neg h3]
        by_cases a : 6 * (f + 1) * d + 1 ≤ p ∧ p ≤ 400
        case neg => rw [decide_eq_false a, if_neg (by decide), if_pos trivial]
        rw [decide_eq_true a, if_pos rfl]
        by_cases b : 1 ≤ r ∧ r ≤ 64
        case neg => rw [decide_eq_false b, if_neg (by decide), if_pos trivial]
        rw [decide_eq_true b, if_pos rfl, wrap_small (n := r - 1) (by omega) (by omega)]
        by_cases c : 0 ≤ dr ∧ dr ≤ r - 1
        case neg => rw [decide_eq_false c, if_neg (by decide), if_pos trivial]
        rw [decide_eq_true c, if_pos rfl]
        by_cases e : 0 ≤ o ∧ o ≤ 30000
        case neg => rw [decide_eq_false e, if_neg (by decide), if_pos trivial]
        rw [decide_eq_true e, if_pos rfl]
        by_cases g : 1 ≤ s ∧ s ≤ 30000
        case neg => rw [decide_eq_false g, if_neg (by decide), if_pos trivial]
        rw [decide_eq_true g, if_pos rfl]
        by_cases i : 2 ≤ m ∧ m ≤ 250
        case neg => rw [decide_eq_false i, if_neg (by decide), if_pos trivial]
        rw [decide_eq_true i, if_pos rfl]
        by_cases j : 1 ≤ fr ∧ fr ≤ 100
        case neg => rw [decide_eq_false j, if_pos (by decide)]
        exact absurd ⟨a.1, a.2, b.1, b.2, c.1, c.2, e.1, e.2, g.1, g.2, i.1, i.2, j.1, j.2⟩ h3
    · have h2' : ¬ (1 ≤ d ∧ d ≤ 4) := h2
      rw [decide_eq_false h2', if_neg (by decide), if_neg h2]
  · rw [if_neg h1]
    by_cases a : 4 ≤ n ∧ n ≤ 13
    case neg => rw [decide_eq_false a, if_neg (by decide), if_pos trivial]
    rw [decide_eq_true a, if_pos rfl]
    by_cases b : 0 ≤ f ∧ f ≤ 4
    case neg => rw [decide_eq_false b, if_neg (by decide), if_pos trivial]
    rw [decide_eq_true b, if_pos rfl, wrap_small (n := 3 * f) (by omega) (by omega), decide_eq_true (by unfold nodesOk at h1; omega), if_pos rfl]
theorem plain_zero {n f d p r dr o s m fr : Int} {t : List Int} : plain n f d p r dr o s m fr t = 0 ↔ nodesOk n f ∧ delayOk d ∧ numbersOk f d p r dr o s m fr ∧ tableOk n t := by
  unfold plain
  split
  · split
    · split
      · split
        · rename_i a b c e
          exact ⟨fun _ => ⟨a, b, c, e⟩, fun _ => rfl⟩
        · rename_i e
          exact ⟨fun h => absurd h (by decide), fun h => absurd h.2.2.2 e⟩
      · rename_i e
        exact ⟨fun h => absurd h (by decide), fun h => absurd h.2.2.1 e⟩
    · rename_i e
      exact ⟨fun h => absurd h (by decide), fun h => absurd h.2.1 e⟩
  · rename_i e
    exact ⟨fun h => absurd h (by decide), fun h => absurd h.1 e⟩
end Go.Proofs.Ytbfnkdgjcpcmbaa.ConfLib
