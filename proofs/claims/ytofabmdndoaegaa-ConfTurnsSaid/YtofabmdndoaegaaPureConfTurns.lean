/- The order of slots does not matter; an owner that is no node, or no slot at all, is not plain. -/
import Derived.Test.YtofabmdndoaegaaSConfTurns
import Derived.Test.YtofabmdndoaegaaConfLib2
import Derived.Test.YtofabmdndoaegaaXx11
set_option linter.unusedVariables false
set_option linter.unusedSimpArgs false
namespace Go.Proofs.Ytofabmdndoaegaa.confTurns
open Go.RowKit Go.Proofs.Ytofabmdndoaegaa.X Go.Proofs.YtofabmdndoaegaaW.PrintWords Go.Proofs.Ytofabmdndoaegaa.ConfLib
theorem known1000 : bellwetherlaw03_known.f 1000 = some true := by decide +kernel
theorem known {k : Nat} (hk : 1000 ≤ k) : bellwetherlaw03_known.f k = some true := at_rounds bellwetherlaw03_known.mono hk known1000
theorem ok_reverse (n : Int) (t : List Int) : conf_table.ok n t.reverse = conf_table.ok n t := by
  unfold conf_table.ok
  rw [List.all_reverse]
  congr 2
  funext j
  rw [List.contains_eq_any_beq, List.contains_eq_any_beq, List.any_reverse]
theorem plain_reverse (n f d p r dr o s m fr : Int) (t : List Int) : plain n f d p r dr o s m fr t.reverse = plain n f d p r dr o s m fr t := by
  have : tableOk n t.reverse ↔ tableOk n t := by
    unfold tableOk
    rw [List.length_reverse, ok_reverse]
  unfold plain
  split <;> try rfl
  split <;> try rfl
  split <;> try rfl
  by_cases h : tableOk n t
  · rw [if_pos h, if_pos (this.2 h)]
  · rw [if_neg h, if_neg (fun q => h (this.1 q))]
theorem plain_other {n f d p r dr o s m fr : Int} {t u : List Int} (h : plain n f d p r dr o s m fr t = 0) (hu : ¬ tableOk n u) : plain n f d p r dr o s m fr u = 11 := by
  obtain ⟨h1, h2, h3, h4⟩ := plain_zero.1 h
  unfold plain
  rw [if_pos h1, if_pos h2, if_pos h3, if_neg hu]
theorem not_ok {n : Int} {t : List Int} (h : n ∈ t) : ¬ tableOk n t := by
  intro hq
  have := hq.2.2
  unfold conf_table.ok at this
  rw [Bool.and_eq_true, List.all_eq_true] at this
  have := this.1 n h
  simp at this
theorem loop (n f d p r dr o s m fr : Int) (t : List Int) (at_ : Int) (ht : t.length ≤ 40) (q : Nat) : ∀ (k : Nat), q ≤ t.length → q + 1100 < k →
    bellwetherlaw03_ConfTurns.l0 k at_ ((q : Int) - 1) n f d p r dr o s m fr t n f d p r dr o s m fr ((t.drop q).reverse) = some true := by
  induction q with
  | zero =>
    intro k _ hk
    obtain ⟨k, rfl⟩ : ∃ x, k = x + 2 := ⟨k - 2, by omega⟩
    have hj : ∀ b : Bool, (b = true → 0 ≤ at_ ∧ at_ < t.length ∧ plain n f d p r dr o s m fr t = 0) → bellwetherlaw03_ConfTurns.j1 (k + 1) at_ b n f d p r dr o s m fr t n f d p r dr o s m fr t.reverse = some true := by
      intro b hb
      simp only [bellwetherlaw03_ConfTurns.j1]
      cases b with
      | false =>
        rw [if_neg (by decide), known (by omega)]
        rfl
      | true =>
        obtain ⟨h0, h1, hp⟩ := hb rfl
        have hin : at_.toNat < t.reverse.length := by rw [List.length_reverse]; omega
        rw [if_pos rfl, if_pos h0, if_pos (by rw [List.length_reverse]; exact h1), plain_at _ _ _ _ _ _ _ _ _ _ _ (by omega), plain_other hp (not_ok (List.mem_set hin _))]
        simp only [Option.bind_some]
        rw [if_pos trivial, plain_at _ _ _ _ _ _ _ _ _ _ _ (by omega), plain_other hp (fun h => by have := h.1; simp at this)]
        simp only [Option.bind_some]
        rw [if_pos trivial, known (by omega)]
        rfl
    rw [show k + 2 = (k + 1) + 1 from rfl]
    simp only [bellwetherlaw03_ConfTurns.l0]
    rw [if_neg (by omega), List.drop_zero, plain_at _ _ _ _ _ _ _ _ _ _ _ (by omega), plain_at _ _ _ _ _ _ _ _ _ _ _ (by omega), plain_reverse]
    simp only [Option.bind_some, if_true]
    by_cases hp : plain n f d p r dr o s m fr t = 0
    · rw [if_pos hp]
      by_cases h0 : at_ ≥ 0
      · rw [if_pos h0]
        exact hj _ (fun h => ⟨h0, by rw [List.length_reverse] at h; exact of_decide_eq_true h, hp⟩)
      · rw [if_neg h0]
        exact hj _ (fun h => by cases h)
    · rw [if_neg hp]
      exact hj _ (fun h => by cases h)
  | succ q ih =>
    intro k hq hk
    obtain ⟨k, rfl⟩ : ∃ x, k = x + 1 := ⟨k - 1, by omega⟩
    have hlt : q < t.length := by omega
    simp only [bellwetherlaw03_ConfTurns.l0]
    rw [show (((q + 1 : Nat) : Int) - 1) = (q : Int) by omega, if_pos (by omega), if_pos (by omega), if_pos (by omega), if_pos (by rw [List.length_reverse, List.length_drop]; omega), rd_at hlt, ConfLib.wrap_small (by omega) (by omega)]
    have e : (t.drop (q + 1)).reverse ++ [t[q]] = (t.drop q).reverse := by rw [List.drop_eq_getElem_cons hlt, List.reverse_cons]
    rw [e]
    exact ih k (by omega) (by omega)
theorem pure : Pure := by
  rintro ⟨n, f, d, p, r, dr, o, s, m, fr, t⟩ at_ _ _
  refine ⟨2000, ?_⟩
  unfold bellwetherlaw03_ConfTurns.f
  by_cases h : (t.length : Int) > 40
  · simp only []
    rw [if_pos h, known (by omega)]
    rfl
  · simp only []
    rw [if_neg h, ConfLib.wrap_small (by omega) (by omega)]
    have := loop n f d p r dr o s m fr t at_ (by omega) t.length 2000 (by omega) (by omega)
    rw [List.drop_length] at this
    exact this
end Go.Proofs.Ytofabmdndoaegaa.confTurns
