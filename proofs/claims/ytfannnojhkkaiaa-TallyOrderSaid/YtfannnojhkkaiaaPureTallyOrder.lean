/- In which order votes come does not matter, and what is no vote does not count. -/
import Derived.Test.YtfannnojhkkaiaaSTallyOrder
import Derived.Test.YtfannnojhkkaiaaPureTallyKeeps
set_option linter.unusedVariables false
set_option linter.unusedSimpArgs false
namespace Go.Proofs.Ytfannnojhkkaiaa.tallyOrder
open Go.RowKit Go.Proofs.Ytfannnojhkkaiaa.X Go.Proofs.YtfannnojhkkaiaaW.PrintWords Go.Proofs.Ytfannnojhkkaiaa.ConfLib Go.Proofs.Ytfannnojhkkaiaa.TallyLib
open Go.Proofs.Ytfannnojhkkaiaa.tallyKeeps (known)
def vote (x : Int) : Bool := decide (0 ≤ x ∧ x ≤ 2)
theorem C_back (v : Int) (l : List Int) : C v (l.reverse.filter vote) = C v l := by
  unfold C
  by_cases h : v < 0 ∨ 3 ≤ v
  · rw [if_pos h, if_pos h]
  · rw [if_neg h, if_neg h, List.count_filter (by simp only [vote, decide_eq_true_eq]; omega), List.count_reverse]
theorem C_all (l : List Int) : C 0 l + C 1 l + C 2 l = (l.filter vote).length := by
  induction l with
  | nil => rw [C_nil, C_nil, C_nil]; rfl
  | cons a l ih =>
    rw [C_cons, C_cons, C_cons]
    by_cases h : vote a = true
    · rw [List.filter_cons_of_pos h, List.length_cons]
      have h' : 0 ≤ a ∧ a ≤ 2 := of_decide_eq_true h
      have e : a = 0 ∨ a = 1 ∨ a = 2 := by omega
      rcases e with rfl | rfl | rfl <;> simp <;> omega
    · rw [List.filter_cons_of_neg h]
      have h' : ¬ (0 ≤ a ∧ a ≤ 2) := fun g => h (decide_eq_true g)
      rw [if_neg (by omega), if_neg (by omega), if_neg (by omega)]
      omega
section
variable (n f d p r dr o s m fr : Int) (t : List Int)
theorem M_same {l l' : List Int} (h : ∀ v, C v l = C v l') : M n f d p r dr o s m fr t l = M n f d p r dr o s m fr t l' := by
  unfold M
  rw [h 1, h 0]
theorem L_same (now : Int) {l l' : List Int} (h : ∀ v, C v l = C v l') : L n f d p r dr o s m fr t now l = L n f d p r dr o s m fr t now l' := by
  unfold L
  rw [h 1, h 0, h 2]
theorem fin (now : Int) (l b : List Int) (hl : l.length ≤ 60) (hb : b = l.reverse.filter vote) {k : Nat} (hk : 2010 < k) : bellwetherlaw13_TallyOrder.l1 k now l b 0 0 n f d p r dr o s m fr t = some true := by
  have hC : ∀ v, C v b = C v l := fun v => by rw [hb, C_back]
  have hbl : b.length ≤ 60 := by
    rw [hb]
    exact Nat.le_trans (List.length_filter_le _ _) (by rw [List.length_reverse]; exact hl)
  have hlen : C 0 l + C 1 l + C 2 l = (b.length : Int) := by
    rw [C_all, hb, List.filter_reverse, List.length_reverse]
  have g0 := C_nonneg 0 l
  have g1 := C_nonneg 1 l
  have g2 := C_nonneg 2 l
  have hst : ∀ (k : Nat) (x v : Int), 0 ≤ x → x ≤ 200 → 0 ≤ v → v < 3 → bellwetherlaw13_TallyOrder.l1 (k + 1) now l b x v n f d p r dr o s m fr t = bellwetherlaw13_TallyOrder.l1 k now l b (x + C v l) (v + 1) n f d p r dr o s m fr t := by
    intro k x v h0 h1 h2 h3
    have gv := C_nonneg v l
    have gl := C_le v l
    simp only [bellwetherlaw13_TallyOrder.l1]
    rw [if_pos h3, count_at v l (by omega), count_at v b (by omega), hC, ConfLib.wrap_small (n := v + 1) (by omega) (by omega)]
    simp only [Option.bind_some]
    rw [ConfLib.wrap_small (n := x + C v l) (by omega) (by omega), if_pos trivial]
  have gl0 := C_le 0 l
  have gl1 := C_le 1 l
  have q1 : C (0 + 1) l = C 1 l := rfl
  obtain ⟨k, rfl⟩ : ∃ j, k = j + 1 + 1 + 1 + 1 := ⟨k - 4, by omega⟩
  rw [hst _ 0 0 (by omega) (by omega) (by omega) (by omega), hst _ (0 + C 0 l) (0 + 1) (by omega) (by omega) (by omega) (by omega), hst _ (0 + C 0 l + C (0 + 1) l) (0 + 1 + 1) (by omega) (by omega) (by omega) (by omega)]
  rw [show (0 : Int) + 1 = 1 by omega, show (1 : Int) + 1 = 2 by omega, show (2 : Int) + 1 = 3 by omega]
  simp only [bellwetherlaw13_TallyOrder.l1]
  rw [if_neg (by omega), if_pos (by omega), most_at n f d p r dr o s m fr t b (by omega) (by omega), most_at n f d p r dr o s m fr t l (by omega) (by omega), least_at n f d p r dr o s m fr t now b (by omega) (by omega), least_at n f d p r dr o s m fr t now l (by omega) (by omega), M_same n f d p r dr o s m fr t hC, L_same n f d p r dr o s m fr t now hC, known (by omega)]
  simp only [Option.bind_some, if_true]
theorem loop (now : Int) (l : List Int) (hl : l.length ≤ 60) (q : Nat) : ∀ k : Nat, q ≤ l.length → q + 2020 < k →
    bellwetherlaw13_TallyOrder.l0 k now l ((l.drop q).reverse.filter vote) 0 ((q : Int) - 1) n f d p r dr o s m fr t = some true := by
  induction q with
  | zero =>
    intro k _ hk
    obtain ⟨k, rfl⟩ : ∃ j, k = j + 1 := ⟨k - 1, by omega⟩
    simp only [bellwetherlaw13_TallyOrder.l0]
    rw [if_neg (by omega)]
    exact fin n f d p r dr o s m fr t now l _ hl (by rw [List.drop_zero]) (by omega)
  | succ q ih =>
    intro k hq hk
    obtain ⟨k, rfl⟩ : ∃ j, k = j + 1 := ⟨k - 1, by omega⟩
    have hlt : q < l.length := by omega
    have hi := ih k (by omega) (by omega)
    rw [List.drop_eq_getElem_cons hlt, List.reverse_cons, List.filter_append] at hi
    have hbl : (((l.drop (q + 1)).reverse.filter vote)).length < 17592186044416 := by
      have := List.length_filter_le vote (l.drop (q + 1)).reverse
      rw [List.length_reverse, List.length_drop] at this
      omega
    simp only [bellwetherlaw13_TallyOrder.l0]
    rw [show (((q + 1 : Nat) : Int) - 1) = (q : Int) by omega, if_pos (by omega), if_pos (by omega), if_pos (by omega), rd_at hlt, ConfLib.wrap_small (n := (q : Int) - 1) (by omega) (by omega)]
    by_cases h0 : l[q] ≥ 0
    · rw [if_pos h0]
      by_cases h2 : l[q] ≤ 2
      · rw [if_pos h2, if_pos hbl]
        rw [show List.filter vote [l[q]] = [l[q]] from by simp [vote]; omega] at hi
        exact hi
      · rw [if_neg h2]
        rw [show List.filter vote [l[q]] = [] from by simp [vote]; omega, List.append_nil] at hi
        exact hi
    · rw [if_neg h0]
      rw [show List.filter vote [l[q]] = [] from by simp [vote]; omega, List.append_nil] at hi
      exact hi
end
theorem pure : Pure := by
  rintro ⟨n, f, d, p, r, dr, o, s, m, fr, t⟩ now l _ _ _
  refine ⟨3000, ?_⟩
  unfold bellwetherlaw13_TallyOrder.f
  by_cases h : (l.length : Int) > 60
  · rw [if_pos h, known (by omega)]
    rfl
  · rw [if_neg h, ConfLib.wrap_small (by omega) (by omega)]
    have := loop n f d p r dr o s m fr t now l (by omega) l.length 3000 (by omega) (by omega)
    rw [List.drop_length] at this
    exact this
end Go.Proofs.Ytfannnojhkkaiaa.tallyOrder
