/- Of as many votes as there are nodes, with a quorum of 0 or of 1, both exchanges make that. -/
import Derived.Test.YtfannnojhkkaiaaSTallyKeeps
import Derived.Test.YtfannnojhkkaiaaTallyLib2
import Derived.Test.YtfannnojhkkaiaaXx10
set_option linter.unusedVariables false
set_option linter.unusedSimpArgs false
namespace Go.Proofs.Ytfannnojhkkaiaa.tallyKeeps
open Go.RowKit Go.Proofs.Ytfannnojhkkaiaa.X Go.Proofs.YtfannnojhkkaiaaW.PrintWords Go.Proofs.Ytfannnojhkkaiaa.ConfLib Go.Proofs.Ytfannnojhkkaiaa.TallyLib
theorem known_2000 : bellwetherlaw13_known.f 2000 = some true := by decide +kernel
theorem known {k : Nat} (hk : 2000 ≤ k) : bellwetherlaw13_known.f k = some true := by
  obtain ⟨j, rfl⟩ : ∃ j, k = 2000 + j := ⟨k - 2000, by omega⟩
  induction j with
  | zero => exact known_2000
  | succ j ih => exact bellwetherlaw13_known.mono _ _ (ih (by omega))
theorem C_two (l : List Int) : C 0 l + C 1 l + C 2 l ≤ l.length := by
  induction l with
  | nil => rw [C_nil, C_nil, C_nil]; simp
  | cons a l ih =>
    rw [C_cons, C_cons, C_cons, List.length_cons]
    have h : ∀ v : Int, (if a = v ∧ 0 ≤ v ∧ v ≤ 2 then (1 : Int) else 0) ≤ (if a = v then 1 else 0) := by
      intro v
      split
      · rename_i h
        rw [if_pos h.1]
        omega
      · split <;> omega
    have h0 := h 0
    have h1 := h 1
    have h2 := h 2
    by_cases e0 : a = 0
    · rw [if_pos e0] at h0
      rw [if_neg (by omega)] at h1 h2
      omega
    · rw [if_neg e0] at h0
      by_cases e1 : a = 1
      · rw [if_pos e1] at h1
        rw [if_neg (by omega)] at h2
        omega
      · rw [if_neg e1] at h1
        have : (if a = 2 then (1 : Int) else 0) ≤ 1 := by split <;> omega
        omega
theorem step (n f d p r dr o s m fr : Int) (t : List Int) (now : Int) (l : List Int) (hp : plain n f d p r dr o s m fr t = 0) (hn : (l.length : Int) = n) (v : Int) (hv : v = 0 ∨ v = 1) {k : Nat} (hk : 10 < k) :
    bellwetherlaw13_TallyKeeps.l0 (k + 1) now l v n f d p r dr o s m fr t = bellwetherlaw13_TallyKeeps.l0 k now l (v + 1) n f d p r dr o s m fr t := by
  have hb := plain_facts hp
  have hs := C_two l
  have g0 := C_nonneg 0 l
  have g1 := C_nonneg 1 l
  have g2 := C_nonneg 2 l
  have hl2 : l.length ≤ 1000000 := by omega
  have hE : ∀ v, E n f d p r dr o s m fr t v l = decide (n - f ≤ C v l) := by
    intro v
    simp [E, hp]
  have hM : M n f d p r dr o s m fr t l = (if n - f ≤ C 1 l then 1 else if n - f ≤ C 0 l then 0 else 2) := by
    simp [M, hp]
  have hL : L n f d p r dr o s m fr t now l = (if f + 1 ≤ C 0 l then 0 else if f + 1 ≤ C 1 l then 1 else if f + 1 ≤ C 2 l then 2 else now) := by
    simp [L, hp]
  have hS : S n f d p r dr o s m fr t = f + 1 := by
    simp [S, hp]
  simp only [bellwetherlaw13_TallyKeeps.l0]
  rw [if_pos (by omega), enough_at n f d p r dr o s m fr t v l hl2 hk, most_at n f d p r dr o s m fr t l hl2 hk, least_at n f d p r dr o s m fr t now l hl2 hk, some_at n f d p r dr o s m fr t hk, hE, hM, hL, hS, ConfLib.wrap_small (n := v + 1) (by omega) (by omega), ConfLib.wrap_small (n := 1 - v) (by omega) (by omega), count_at _ l hl2]
  simp only [Option.bind_some, decide_eq_true_eq]
  rcases hv with rfl | rfl
  · by_cases h : n - f ≤ C 0 l
    · rw [if_pos h, if_neg (show ¬ n - f ≤ C 1 l by omega), if_pos h, if_pos rfl, if_pos (show f + 1 ≤ C 0 l by omega), if_pos rfl, if_neg (show ¬ C (1 - 0) l ≥ f + 1 by rw [show (1 : Int) - 0 = 1 by omega]; omega)]
    · rw [if_neg h]
  · by_cases h : n - f ≤ C 1 l
    · rw [if_pos h, if_pos h, if_pos rfl, if_neg (show ¬ f + 1 ≤ C 0 l by omega), if_pos (show f + 1 ≤ C 1 l by omega), if_pos rfl, if_neg (show ¬ C (1 - 1) l ≥ f + 1 by rw [show (1 : Int) - 1 = 0 by omega]; omega)]
    · rw [if_neg h]
theorem pure : Pure := by
  rintro ⟨n, f, d, p, r, dr, o, s, m, fr, t⟩ now l _ _ _
  refine ⟨3000, ?_⟩
  have ht : ∀ k, 2001 ≤ k → bellwetherlaw13_TallyKeeps.j0 k now l true n f d p r dr o s m fr t = some true := by
    intro k hk
    obtain ⟨k, rfl⟩ : ∃ j, k = j + 1 := ⟨k - 1, by omega⟩
    simp only [bellwetherlaw13_TallyKeeps.j0]
    rw [if_pos trivial, known (by omega)]
    rfl
  unfold bellwetherlaw13_TallyKeeps.f
  rw [ref_plain_at n f d p r dr o s m fr t (by omega)]
  simp only [Option.bind_some]
  by_cases hp : plain n f d p r dr o s m fr t = 0
  · rw [if_pos hp]
    by_cases hn : (l.length : Int) = n
    · have hb := plain_facts hp
      have hz : ∀ k, 2100 < k → bellwetherlaw13_TallyKeeps.l0 k now l 0 n f d p r dr o s m fr t = some true := by
        intro k hk
        obtain ⟨k, rfl⟩ : ∃ j, k = j + 1 + 1 + 1 := ⟨k - 3, by omega⟩
        rw [step n f d p r dr o s m fr t now l hp hn 0 (.inl rfl) (by omega), step n f d p r dr o s m fr t now l hp hn (0 + 1) (.inr rfl) (by omega), bellwetherlaw13_TallyKeeps.l0, if_neg (by omega), known (by omega)]
        rfl
      rw [show ((l.length : Int) != n) = false by simpa using hn, show 3000 = 2999 + 1 from rfl, bellwetherlaw13_TallyKeeps.j0, if_neg (by decide)]
      exact hz _ (by omega)
    · rw [show ((l.length : Int) != n) = true by simpa using hn]
      exact ht _ (by omega)
  · rw [if_neg hp]
    exact ht _ (by omega)
end Go.Proofs.Ytfannnojhkkaiaa.tallyKeeps
