import Derived.Test.YtmdnmofcgmmfbaaYWindowSince31
import Derived.Test.YtmdnmofcgmmfbaaYWindowSince14
import Derived.Test.YtmdnmofcgmmfbaaYWindowSince20
import Derived.Test.YtmdnmofcgmmfbaaYWindowSince21
import Derived.Test.YtmdnmofcgmmfbaaYWindowSince17
import Derived.Test.YtmdnmofcgmmfbaaYWindowSince15
import Derived.Test.YtmdnmofcgmmfbaaYWindowSince24
set_option linter.unusedVariables false
set_option linter.unusedSimpArgs false
namespace Go.Proofs.Ytmdnmofcgmmfbaa.WinLib
open Go.RowKit Go.Proofs.Ytmdnmofcgmmfbaa.X Go.Proofs.YtmdnmofcgmmfbaaW.PrintWords Go.Proofs.YtmdnmofcgmmfbaaW.PrintMore Go.Proofs.Ytmdnmofcgmmfbaa.ConfLib
abbrev Rows := List (List S28)
def pu (l : Rows) (n t : Int) : Bool := if 0 ≤ t ∧ t < l.length ∧ 0 ≤ n ∧ n < (rd_L6 l t).length then (rd_T28 (rd_L6 l t) n).f0 else false
theorem at_at (l : Rows) (t n : Int) : ∃ r, trace_At.f l t n = some r ∧ r.1 = pu l n t := by
  unfold trace_At.f pu
  by_cases h1 : t < 0
  · rw [if_pos h1, if_neg (by omega)]
    exact ⟨_, rfl, rfl⟩
  by_cases h2 : t ≥ l.length
  · rw [if_neg h1, if_pos h2, if_neg (by omega)]
    exact ⟨_, rfl, rfl⟩
  by_cases h3 : n < 0
  · rw [if_neg h1, if_neg h2, if_pos h3, if_neg (by omega)]
    exact ⟨_, rfl, rfl⟩
  by_cases h4 : n ≥ (rd_L6 l t).length
  · rw [if_neg h1, if_neg h2, if_neg h3, if_pos (by omega), if_pos (by omega), if_pos h4, if_neg (by omega)]
    exact ⟨_, rfl, rfl⟩
  · rw [if_neg h1, if_neg h2, if_neg h3, if_pos (by omega), if_pos (by omega), if_neg h4, if_pos (by omega), if_pos (by omega), if_pos (by omega)]
    exact ⟨_, rfl, rfl⟩
theorem ref_at (l : Rows) (t n : Int) : ∃ r, bellwetherref36_At.f l t n = some r ∧ r.1 = pu l n t := at_at l t n
theorem few_len {l : Rows} {k : Nat} {b : Bool} (h : bellwetherref36_Few.f k l 200 = some b) (hb : b = true) : (l.length : Int) ≤ 200 := by
  unfold bellwetherref36_Few.f at h
  by_cases h1 : (l.length : Int) > 200
  · rw [if_pos h1] at h
    injection h with h
    rw [← h] at hb
    cases hb
  · omega
theorem few_loop (l : Rows) (hl : l.length ≤ 200) (q : Nat) : ∀ (i : Nat) (k : Nat), i + q = l.length → 30 * q + 30 < k → ∃ b, bellwetherref36_Few.l0 k l (i : Int) = some b := by
  induction q with
  | zero =>
    intro i k hi hk
    obtain ⟨k, rfl⟩ : ∃ j, k = j + 1 := ⟨k - 1, by omega⟩
    simp only [bellwetherref36_Few.l0]
    rw [if_neg (by omega)]
    exact ⟨_, rfl⟩
  | succ q ih =>
    intro i k hi hk
    obtain ⟨k, rfl⟩ : ∃ j, k = j + 1 := ⟨k - 1, by omega⟩
    simp only [bellwetherref36_Few.l0]
    rw [if_pos (by omega), if_pos (by omega)]
    by_cases h : ((rd_L6 l i).length : Int) > 20
    · rw [if_pos h]
      exact ⟨_, rfl⟩
    · rw [if_neg h]
      have inner : ∀ (q2 j k2 : Nat), j + q2 = (rd_L6 l i).length → 30 * q + 31 + q2 < k2 → ∃ b, bellwetherref36_Few.l1 k2 l (i : Int) (j : Int) = some b := by
        intro q2
        induction q2 with
        | zero =>
          intro j k2 hj hk2
          obtain ⟨k2, rfl⟩ : ∃ z, k2 = z + 1 := ⟨k2 - 1, by omega⟩
          simp only [bellwetherref36_Few.l1]
          rw [if_pos (by omega), if_pos (by omega), if_neg (by omega), ConfLib.wrap_small (by omega) (by omega)]
          exact ih (i + 1) k2 (by omega) (by omega)
        | succ q2 ih2 =>
          intro j k2 hj hk2
          obtain ⟨k2, rfl⟩ : ∃ z, k2 = z + 1 := ⟨k2 - 1, by omega⟩
          simp only [bellwetherref36_Few.l1]
          rw [if_pos (by omega), if_pos (by omega), if_pos (by omega), if_pos (by omega)]
          split
          · exact ⟨_, rfl⟩
          · rw [ConfLib.wrap_small (by omega) (by omega)]
            exact ih2 (j + 1) k2 (by omega) (by omega)
      exact inner (rd_L6 l i).length 0 k (by omega) (by omega)
theorem few_some (l : Rows) {k : Nat} (hk : 7000 < k) : ∃ b, bellwetherref36_Few.f k l 200 = some b := by
  unfold bellwetherref36_Few.f
  by_cases h1 : (l.length : Int) > 200
  · rw [if_pos h1]
    exact ⟨_, rfl⟩
  · rw [if_neg h1]
    exact few_loop l (by omega) l.length 0 k (by omega) (by omega)
def comm (l : Rows) (ns : List Int) (t : Int) : Bool := ns.all (fun n => pu l n t == pu l (rd ns 0) t)
def Twice (p : Int → Bool) (a N P : Int) : Prop := ∃ s t, a ≤ s ∧ s < t ∧ t < N ∧ p s = true ∧ p t = true ∧ t - s < P
def Late (p : Int → Bool) (a N P : Int) : Prop := ∃ t, a ≤ t ∧ t + P ≤ N ∧ ∀ k, t ≤ k → k < t + P → p k = false
def Comm (l : Rows) (ns : List Int) (a : Int) : Prop := ∀ t, a ≤ t → t < l.length → comm l ns t = true
structure Reg (l : Rows) (ns : List Int) (a P r : Int) : Prop where
  node : ¬ Comm l ns a → r = 7
  twice : Comm l ns a → Twice (pu l (rd ns 0)) a l.length P → r = 13
  late : Comm l ns a → ¬ Twice (pu l (rd ns 0)) a l.length P → Late (pu l (rd ns 0)) a l.length P → r = 10
  ok : Comm l ns a → ¬ Twice (pu l (rd ns 0)) a l.length P → ¬ Late (pu l (rd ns 0)) a l.length P → r = 0
theorem Reg.one {l : Rows} {ns : List Int} {a P r s : Int} (h : Reg l ns a P r) (g : Reg l ns a P s) : r = s := by
  by_cases h1 : Comm l ns a
  · by_cases h2 : Twice (pu l (rd ns 0)) a l.length P
    · rw [h.twice h1 h2, g.twice h1 h2]
    · by_cases h3 : Late (pu l (rd ns 0)) a l.length P
      · rw [h.late h1 h2 h3, g.late h1 h2 h3]
      · rw [h.ok h1 h2 h3, g.ok h1 h2 h3]
  · rw [h.node h1, g.node h1]
theorem mx_nonneg (a : Int) : 0 ≤ mx a 0 := by
  unfold mx
  split <;> omega
end Go.Proofs.Ytmdnmofcgmmfbaa.WinLib
