/- Of two lists of votes that differ at no more places than there may be faulty nodes, not the one has a quorum of 0 and the other one of 1; where one has a quorum, the other one has some. -/
import Derived.Test.YtfannnojhkkaiaaSTallyMeet
import Derived.Test.YtfannnojhkkaiaaPureTallyKeeps
import Derived.Test.YtfannnojhkkaiaaXx15
set_option linter.unusedVariables false
set_option linter.unusedSimpArgs false
namespace Go.Proofs.Ytfannnojhkkaiaa.tallyMeet
open Go.RowKit Go.Proofs.Ytfannnojhkkaiaa.X Go.Proofs.YtfannnojhkkaiaaW.PrintWords Go.Proofs.Ytfannnojhkkaiaa.ConfLib Go.Proofs.Ytfannnojhkkaiaa.TallyLib
open Go.Proofs.Ytfannnojhkkaiaa.tallyKeeps (known C_two)
/-- At how many places two lists differ. -/
def diff : List Int → List Int → Int
  | a :: l, b :: m => (if a = b then 0 else 1) + diff l m
  | _, _ => 0
theorem diff_nonneg : ∀ l m : List Int, 0 ≤ diff l m ∧ diff l m ≤ l.length
  | [], _ => by simp [diff]
  | a :: l, [] => by
    simp only [diff, List.length_cons]
    omega
  | a :: l, b :: m => by
    have := diff_nonneg l m
    simp only [diff, List.length_cons]
    split <;> omega
theorem diff_C (v : Int) : ∀ l m : List Int, l.length = m.length → C v l ≤ C v m + diff l m ∧ C v m ≤ C v l + diff l m
  | [], [], _ => by simp [diff]
  | a :: l, b :: m, h => by
    have := diff_C v l m (by simpa using h)
    rw [C_cons, C_cons]
    simp only [diff]
    by_cases e : a = b
    · rw [e, if_pos rfl]
      omega
    · rw [if_neg e]
      split <;> split <;> omega
theorem diff_eq {a b : Int} {l m : List Int} (e : a = b) : diff (a :: l) (b :: m) = diff l m := by
  simp only [diff]
  rw [if_pos e, Int.zero_add]
theorem diff_ne {a b : Int} {l m : List Int} (e : ¬ a = b) : diff (a :: l) (b :: m) = 1 + diff l m := by
  simp only [diff]
  rw [if_neg e]
section
variable (n f d p r dr o s m fr : Int) (t : List Int)
theorem near_loop (a b : List Int) (ha : (a.length : Int) = n) (hb : (b.length : Int) = n) (hn : n ≤ 13) (q : Nat) : ∀ (k i : Nat) (x : Int), i + q = a.length → q < k → 0 ≤ x → x ≤ i → bellwetherlaw13_near.l0 k a b x (i : Int) n f d p r dr o s m fr t = some (decide (x + diff (a.drop i) (b.drop i) ≤ f)) := by
  induction q with
  | zero =>
    intro k i x hi hk h0 h1
    obtain ⟨k, rfl⟩ : ∃ j, k = j + 1 := ⟨k - 1, by omega⟩
    simp only [bellwetherlaw13_near.l0]
    rw [if_neg (by omega), List.drop_eq_nil_of_le (by omega)]
    simp [diff]
  | succ q ih =>
    intro k i x hi hk h0 h1
    obtain ⟨k, rfl⟩ : ∃ j, k = j + 1 := ⟨k - 1, by omega⟩
    have hla : i < a.length := by omega
    have hlb : i < b.length := by omega
    simp only [bellwetherlaw13_near.l0]
    rw [if_pos (by omega), if_pos (by omega), if_pos (by omega), if_pos (by omega), rd_at hla, rd_at hlb, List.drop_eq_getElem_cons hla, List.drop_eq_getElem_cons hlb, ConfLib.wrap_small (n := (i : Int) + 1) (by omega) (by omega), ConfLib.wrap_small (n := x + 1) (by omega) (by omega)]
    have a1 := ih k (i + 1) x (by omega) (by omega) (by omega) (by omega)
    have a2 := ih k (i + 1) (x + 1) (by omega) (by omega) (by omega) (by omega)
    rw [show (((i + 1 : Nat) : Int)) = (i : Int) + 1 by omega] at a1 a2
    by_cases e : a[i] = b[i]
    · rw [if_pos e, diff_eq e, a1]
    · rw [if_neg e, diff_ne e, a2, Int.add_assoc]
theorem near_at (a b : List Int) {k : Nat} (hk : 1000 < k) : ∃ g, bellwetherlaw13_near.f k n f d p r dr o s m fr t a b = some g ∧ (g = true → plain n f d p r dr o s m fr t = 0 ∧ (a.length : Int) = n ∧ (b.length : Int) = n ∧ diff a b ≤ f) := by
  unfold bellwetherlaw13_near.f
  rw [ref_plain_at n f d p r dr o s m fr t (by omega)]
  simp only [Option.bind_some]
  obtain ⟨k, rfl⟩ : ∃ j, k = j + 1 := ⟨k - 1, by omega⟩
  simp only [bellwetherlaw13_near.j0]
  by_cases hp : plain n f d p r dr o s m fr t = 0
  · have hbb := plain_facts hp
    rw [if_pos hp]
    by_cases ha : (a.length : Int) = n
    · rw [if_pos ha]
      by_cases hb : (b.length : Int) = n
      · rw [if_neg (by simp [hb])]
        have := near_loop n f d p r dr o s m fr t a b ha hb (by omega) a.length k 0 0 (by omega) (by omega) (by omega) (by omega)
        refine ⟨_, this, fun h => ⟨hp, ha, hb, ?_⟩⟩
        have := of_decide_eq_true h
        simpa using this
      · rw [if_pos (by simpa using hb)]
        exact ⟨_, rfl, fun h => by cases h⟩
    · rw [if_neg ha, if_pos trivial]
      exact ⟨_, rfl, fun h => by cases h⟩
  · rw [if_neg hp, if_pos trivial]
    exact ⟨_, rfl, fun h => by cases h⟩
end
theorem pure : Pure := by
  rintro ⟨n, f, d, p, r, dr, o, s, m, fr, t⟩ a b v _ _ _ _
  refine ⟨3000, ?_⟩
  unfold bellwetherlaw13_TallyMeet.f
  obtain ⟨g, e, hg⟩ := near_at n f d p r dr o s m fr t a b (k := 3000) (by omega)
  rw [e]
  simp only [Option.bind_some]
  by_cases h : g = true
  · obtain ⟨hp, ha, hb, hd⟩ := hg h
    have hbb := plain_facts hp
    have hla : a.length ≤ 1000000 := by omega
    have hlb : b.length ≤ 1000000 := by omega
    have d0 := diff_C 0 a b (by omega)
    have d1 := diff_C 1 a b (by omega)
    have dv := diff_C v a b (by omega)
    have sa := C_two a
    have sb := C_two b
    have z0 := C_nonneg 2 a
    have z1 := C_nonneg 2 b
    rw [if_pos h, most_at n f d p r dr o s m fr t a hla (by omega), most_at n f d p r dr o s m fr t b hlb (by omega)]
    simp only [Option.bind_some]
    have hj : bellwetherlaw13_TallyMeet.j0 3000 a b v false n f d p r dr o s m fr t = some true := by
      rw [show 3000 = 2999 + 1 from rfl]
      simp only [bellwetherlaw13_TallyMeet.j0]
      rw [if_neg (by decide), enough_at n f d p r dr o s m fr t v a hla (by omega), count_at v b hlb, some_at n f d p r dr o s m fr t (by omega), known (by omega)]
      simp only [Option.bind_some, E, S, decide_eq_true_eq]
      rw [if_pos hp]
      by_cases hE : plain n f d p r dr o s m fr t = 0 ∧ n - f ≤ C v a
      · rw [if_pos hE, if_pos (by omega)]
      · rw [if_neg hE]
    have hM : M n f d p r dr o s m fr t a = M n f d p r dr o s m fr t b ∨ M n f d p r dr o s m fr t a = 2 ∨ M n f d p r dr o s m fr t b = 2 := by
      unfold M
      rw [if_pos hp, if_pos hp]
      repeat' split
      all_goals first | (left; rfl) | (right; left; rfl) | (right; right; rfl) | (exfalso; omega)
    by_cases h1 : M n f d p r dr o s m fr t a = M n f d p r dr o s m fr t b
    · rw [if_pos h1]
      exact hj
    · rw [if_neg h1]
      by_cases h2 : M n f d p r dr o s m fr t a = 2
      · rw [if_pos h2]
        exact hj
      · rw [if_neg h2, show (M n f d p r dr o s m fr t b != 2) = false by simpa using (hM.resolve_left h1).resolve_left h2]
        exact hj
  · rw [if_neg h, known (by omega)]
    rfl
end Go.Proofs.Ytfannnojhkkaiaa.tallyMeet
