import Derived.Test.YtmdnmofcgmmfbaaYWindowApart30
import Derived.Test.YtmdnmofcgmmfbaaYWindowApart15
import Derived.Test.YtmdnmofcgmmfbaaYWindowApart16
import Derived.Test.YtmdnmofcgmmfbaaYWindowApart22
import Derived.Test.YtmdnmofcgmmfbaaYWindowApart19
import Derived.Test.YtmdnmofcgmmfbaaYWindowApart17
import Derived.Test.YtmdnmofcgmmfbaaYWindowApart31
set_option linter.unusedVariables false
set_option linter.unusedSimpArgs false
namespace Go.Proofs.Ytmdnmofcgmmfbaa.WinLib
open Go.RowKit Go.Proofs.Ytmdnmofcgmmfbaa.X Go.Proofs.YtmdnmofcgmmfbaaW.PrintWords Go.Proofs.YtmdnmofcgmmfbaaW.PrintMore Go.Proofs.Ytmdnmofcgmmfbaa.ConfLib
abbrev Rows := List (List S28)
def pu (l : Rows) (n t : Int) : Bool := if 0 ≤ t ∧ t < l.length ∧ 0 ≤ n ∧ n < (rd_L6 l t).length then (rd_T28 (rd_L6 l t) n).f0 else false
theorem at_at (l : Rows) (t n : Int) : ∃ r, trace_At.f l t n = some r ∧ r.1 = pu l n t := by
  unfold trace_At.f pu
  by_cases h1 : t < 0
  · rw [if_pos h1, if_neg (by omega)]
    exact ⟨_, rfl, rfl⟩
  by_cases h2 : t ≥ l.length
  · rw [if_neg h1, if_pos h2, if_neg (by omega)]
    exact ⟨_, rfl, rfl⟩
  by_cases h3 : n < 0
  · rw [if_neg h1, if_neg h2, if_pos h3, if_neg (by omega)]
    exact ⟨_, rfl, rfl⟩
  by_cases h4 : n ≥ (rd_L6 l t).length
  · rw [if_neg h1, if_neg h2, if_neg h3, if_pos (by omega), if_pos (by omega), if_pos h4, if_neg (by omega)]
    exact ⟨_, rfl, rfl⟩
  · rw [if_neg h1, if_neg h2, if_neg h3, if_pos (by omega), if_pos (by omega), if_neg h4, if_pos (by omega), if_pos (by omega), if_pos (by omega)]
    exact ⟨_, rfl, rfl⟩
theorem ref_at (l : Rows) (t n : Int) : ∃ r, bellwetherref36_At.f l t n = some r ∧ r.1 = pu l n t := at_at l t n
theorem few_len {l : Rows} {k : Nat} {b : Bool} (h : bellwetherref36_Few.f k l 200 = some b) (hb : b = true) : (l.length : Int) ≤ 200 := by
  unfold bellwetherref36_Few.f at h
  by_cases h1 : (l.length : Int) > 200
  · rw [if_pos h1] at h
    injection h with h
    rw [← h] at hb
    cases hb
  · omega
theorem few_loop (l : Rows) (hl : l.length ≤ 200) (q : Nat) : ∀ (i : Nat) (k : Nat), i + q = l.length → 30 * q + 30 < k → ∃ b, bellwetherref36_Few.l0 k l (i : Int) = some b := by
  induction q with
  | zero =>
    intro i k hi hk
    obtain ⟨k, rfl⟩ : ∃ j, k = j + 1 := ⟨k - 1, by omega⟩
    simp only [bellwetherref36_Few.l0]
    rw [if_neg (by omega)]
    exact ⟨_, rfl⟩
  | succ q ih =>
    intro i k hi hk
    obtain ⟨k, rfl⟩ : ∃ j, k = j + 1 := ⟨k - 1, by omega⟩
    simp only [bellwetherref36_Few.l0]
    rw [if_pos (by omega), if_pos (by omega)]
    by_cases h : ((rd_L6 l i).length : Int) > 20
    · rw [if_pos h]
      exact ⟨_, rfl⟩
    · rw [if_neg h]
      have inner : ∀ (q2 j k2 : Nat), j + q2 = (rd_L6 l i).length → 30 * q + 31 + q2 < k2 → ∃ b, bellwetherref36_Few.l1 k2 l (i : Int) (j : Int) = some b := by
        intro q2
        induction q2 with
        | zero =>
          intro j k2 hj hk2
          obtain ⟨k2, rfl⟩ : ∃ z, k2 = z + 1 := ⟨k2 - 1, by omega⟩
          simp only [bellwetherref36_Few.l1]
          rw [if_pos (by omega), if_pos (by omega), if_neg (by omega), ConfLib.wrap_small (by omega) (by omega)]
          exact ih (i + 1) k2 (by omega) (by omega)
        | succ q2 ih2 =>
          intro j k2 hj hk2
          obtain ⟨k2, rfl⟩ : ∃ z, k2 = z + 1 := ⟨k2 - 1, by omega⟩
          simp only [bellwetherref36_Few.l1]
          rw [if_pos (by omega), if_pos (by omega), if_pos (by omega), if_pos (by omega)]
          split
          · exact ⟨_, rfl⟩
          · rw [ConfLib.wrap_small (by omega) (by omega)]
            exact ih2 (j + 1) k2 (by omega) (by omega)
      exact inner (rd_L6 l i).length 0 k (by omega) (by omega)
theorem few_some (l : Rows) {k : Nat} (hk : 7000 < k) : ∃ b, bellwetherref36_Few.f k l 200 = some b := by
  unfold bellwetherref36_Few.f
  by_cases h1 : (l.length : Int) > 200
  · rw [if_pos h1]
    exact ⟨_, rfl⟩
  · rw [if_neg h1]
    exact few_loop l (by omega) l.length 0 k (by omega) (by omega)
def comm (l : Rows) (ns : List Int) (t : Int) : Bool := ns.all (fun n => pu l n t == pu l (rd ns 0) t)
theorem common_loop (l : Rows) (ns : List Int) (hns : ns.length ≤ 20) (t : Int) (q : Nat) : ∀ (k i : Nat), i + q = ns.length → q < k →
    window_Common.l0 k l ns t ns (ns.length : Int) (i : Int) = some ((ns.drop i).all (fun n => pu l n t == pu l (rd ns 0) t)) := by
  induction q with
  | zero =>
    intro k i hi hk
    obtain ⟨k, rfl⟩ : ∃ j, k = j + 1 := ⟨k - 1, by omega⟩
    simp only [window_Common.l0]
    rw [if_neg (by omega), List.drop_eq_nil_of_le (by omega)]
    rfl
  | succ q ih =>
    intro k i hi hk
    obtain ⟨k, rfl⟩ : ∃ j, k = j + 1 := ⟨k - 1, by omega⟩
    have hlt : i < ns.length := by omega
    simp only [window_Common.l0]
    obtain ⟨r1, e1, h1⟩ := at_at l t (rd ns i)
    obtain ⟨r2, e2, h2⟩ := at_at l t (rd ns 0)
    rw [if_pos (by omega), if_pos (by omega), if_pos (by omega), e1]
    simp only [Option.bind_some]
    rw [if_pos (by omega), e2]
    simp only [Option.bind_some]
    rw [h1, h2, List.drop_eq_getElem_cons hlt, List.all_cons, rd_at hlt, ConfLib.wrap_small (by omega) (by omega)]
    by_cases h : pu l ns[i] t = pu l (rd ns 0) t
    · rw [if_neg (by simp [h]), h, beq_self_eq_true, Bool.true_and]
      exact ih k (i + 1) (by omega) (by omega)
    · rw [if_pos (by simpa using h), beq_eq_false_iff_ne.2 h, Bool.false_and]
theorem ref_common_loop (l : Rows) (ns : List Int) (hns : ns.length ≤ 20) (t : Int) (q : Nat) : ∀ (k i : Nat), i + q = ns.length → q < k →
    bellwetherref37_Common.l0 k l ns t (i : Int) = some ((ns.drop i).all (fun n => pu l n t == pu l (rd ns 0) t)) := by
  induction q with
  | zero =>
    intro k i hi hk
    obtain ⟨k, rfl⟩ : ∃ j, k = j + 1 := ⟨k - 1, by omega⟩
    simp only [bellwetherref37_Common.l0]
    rw [if_neg (by omega), List.drop_eq_nil_of_le (by omega)]
    rfl
  | succ q ih =>
    intro k i hi hk
    obtain ⟨k, rfl⟩ : ∃ j, k = j + 1 := ⟨k - 1, by omega⟩
    have hlt : i < ns.length := by omega
    simp only [bellwetherref37_Common.l0]
    obtain ⟨r1, e1, h1⟩ := ref_at l t (rd ns i)
    obtain ⟨r2, e2, h2⟩ := ref_at l t (rd ns 0)
    rw [if_pos (by omega), if_pos (by omega), e1]
    simp only [Option.bind_some]
    rw [if_pos (by omega), e2]
    simp only [Option.bind_some]
    rw [h1, h2, List.drop_eq_getElem_cons hlt, List.all_cons, rd_at hlt, ConfLib.wrap_small (by omega) (by omega)]
    by_cases h : pu l ns[i] t = pu l (rd ns 0) t
    · rw [if_neg (by simp [h]), h, beq_self_eq_true, Bool.true_and]
      exact ih k (i + 1) (by omega) (by omega)
    · rw [if_pos (by simpa using h), beq_eq_false_iff_ne.2 h, Bool.false_and]
theorem common_at (l : Rows) (ns : List Int) (hns : ns.length ≤ 20) (t : Int) {k : Nat} (hk : 30 < k) : window_Common.f k l ns t = some (comm l ns t) := common_loop l ns hns t ns.length k 0 (by omega) (by omega)
theorem ref_common_at (l : Rows) (ns : List Int) (hns : ns.length ≤ 20) (t : Int) {k : Nat} (hk : 30 < k) : bellwetherref37_Common.f k l ns t = some (comm l ns t) := ref_common_loop l ns hns t ns.length k 0 (by omega) (by omega)
def Twice (p : Int → Bool) (a N P : Int) : Prop := ∃ s t, a ≤ s ∧ s < t ∧ t < N ∧ p s = true ∧ p t = true ∧ t - s < P
def Late (p : Int → Bool) (a N P : Int) : Prop := ∃ t, a ≤ t ∧ t + P ≤ N ∧ ∀ k, t ≤ k → k < t + P → p k = false
def Comm (l : Rows) (ns : List Int) (a : Int) : Prop := ∀ t, a ≤ t → t < l.length → comm l ns t = true
theorem commons_loop (l : Rows) (hl : l.length ≤ 200) (ns : List Int) (hns : ns.length ≤ 20) (q : Nat) : ∀ (k : Nat) (t : Int), 0 ≤ t → l.length ≤ t + q → 30 + q < k → ∃ b, window_common.l0 k l ns t = some b ∧ (b = true ↔ Comm l ns t) := by
  induction q with
  | zero =>
    intro k t h0 hq hk
    obtain ⟨k, rfl⟩ : ∃ j, k = j + 1 := ⟨k - 1, by omega⟩
    simp only [window_common.l0]
    rw [if_neg (by omega)]
    exact ⟨_, rfl, fun _ s h1 h2 => by omega, fun _ => rfl⟩
  | succ q ih =>
    intro k t h0 hq hk
    obtain ⟨k, rfl⟩ : ∃ j, k = j + 1 := ⟨k - 1, by omega⟩
    simp only [window_common.l0]
    by_cases h : t < (l.length : Int)
    · rw [if_pos h, common_at l ns hns t (by omega), ConfLib.wrap_small (by omega) (by omega)]
      simp only [Option.bind_some]
      by_cases hc : comm l ns t = true
      · rw [if_pos hc]
        obtain ⟨b, e, hb⟩ := ih k (t + 1) (by omega) (by omega) (by omega)
        refine ⟨b, e, hb.trans ⟨fun hC s h1 h2 => ?_, fun hC s h1 h2 => hC s (by omega) h2⟩⟩
        by_cases e2 : s = t
        · rw [e2]
          exact hc
        · exact hC s (by omega) h2
      · rw [if_neg hc]
        exact ⟨_, rfl, fun h => (by cases h), fun hC => absurd (hC t (by omega) h) hc⟩
    · rw [if_neg h]
      exact ⟨_, rfl, fun _ s h1 h2 => by omega, fun _ => rfl⟩
def Last (p : Int → Bool) (a t last : Int) : Prop := (last = -1 ∧ ∀ s, a ≤ s → s < t → p s = false) ∨ (a ≤ last ∧ last < t ∧ p last = true ∧ ∀ s, last < s → s < t → p s = false)
theorem Last.no {p : Int → Bool} {a t last : Int} (h : Last p a t last) (hp : p t = false) : Last p a (t + 1) last := by
  rcases h with ⟨h1, h2⟩ | ⟨h1, h2, h3, h4⟩
  · refine .inl ⟨h1, fun s ha hs => ?_⟩
    by_cases e : s = t
    · rw [e, hp]
    · exact h2 s ha (by omega)
  · refine .inr ⟨h1, by omega, h3, fun s ha hs => ?_⟩
    by_cases e : s = t
    · rw [e, hp]
    · exact h4 s ha (by omega)
theorem Last.yes {p : Int → Bool} {a t : Int} (ha : a ≤ t) (hp : p t = true) : Last p a (t + 1) t := .inr ⟨ha, by omega, hp, fun s h1 h2 => by omega⟩
theorem twice_no {p : Int → Bool} {a t P : Int} (hp : p t = false) : Twice p a (t + 1) P ↔ Twice p a t P := by
  refine ⟨fun ⟨s, u, h1, h2, h3, h4, h5, h6⟩ => ⟨s, u, h1, h2, ?_, h4, h5, h6⟩, fun ⟨s, u, h1, h2, h3, h4, h5, h6⟩ => ⟨s, u, h1, h2, by omega, h4, h5, h6⟩⟩
  by_cases e : u = t
  · rw [e, hp] at h5
    cases h5
  · omega
theorem twice_first {p : Int → Bool} {a t P : Int} (h : ∀ s, a ≤ s → s < t → p s = false) : ¬ Twice p a (t + 1) P := by
  rintro ⟨s, u, h1, h2, h3, h4, h5, h6⟩
  rw [h s h1 (by omega)] at h4
  cases h4
theorem twice_yes {p : Int → Bool} {a t P last : Int} (hp : p t = true) (h1 : a ≤ last) (h2 : last < t) (h3 : p last = true) (h4 : ∀ s, last < s → s < t → p s = false) : Twice p a (t + 1) P ↔ Twice p a t P ∨ t - last < P := by
  constructor
  · rintro ⟨s, u, g1, g2, g3, g4, g5, g6⟩
    by_cases e : u = t
    · refine .inr ?_
      by_cases e2 : last < s
      · rw [h4 s e2 (by omega)] at g4
        cases g4
      · omega
    · exact .inl ⟨s, u, g1, g2, by omega, g4, g5, g6⟩
  · rintro (⟨s, u, g1, g2, g3, g4, g5, g6⟩ | h)
    · exact ⟨s, u, g1, g2, by omega, g4, g5, g6⟩
    · exact ⟨last, t, h1, h2, by omega, h3, hp, h⟩
def Run (p : Int → Bool) (a t run : Int) : Prop := 0 ≤ run ∧ a ≤ t - run ∧ (∀ s, t - run ≤ s → s < t → p s = false) ∧ (t - run = a ∨ p (t - run - 1) = true)
theorem Run.no {p : Int → Bool} {a t run : Int} (h : Run p a t run) (hp : p t = false) : Run p a (t + 1) (run + 1) := by
  obtain ⟨h1, h2, h3, h4⟩ := h
  refine ⟨by omega, by omega, fun s g1 g2 => ?_, ?_⟩
  · by_cases e : s = t
    · rw [e, hp]
    · exact h3 s (by omega) (by omega)
  · rw [show t + 1 - (run + 1) = t - run by omega]
    exact h4
theorem Run.yes {p : Int → Bool} {a t : Int} (ha : a ≤ t) (hp : p t = true) : Run p a (t + 1) 0 := by
  refine ⟨by omega, by omega, fun s g1 g2 => by omega, .inr ?_⟩
  rw [show t + 1 - 0 - 1 = t by omega]
  exact hp
theorem late_no {p : Int → Bool} {a t run P : Int} (h : Run p a (t + 1) run) : Late p a (t + 1) P ↔ Late p a t P ∨ run ≥ P := by
  obtain ⟨h1, h2, h3, h4⟩ := h
  constructor
  · rintro ⟨s, g1, g2, g3⟩
    by_cases e : s + P ≤ t
    · exact .inl ⟨s, g1, e, g3⟩
    · refine .inr ?_
      rcases h4 with h4 | h4
      · omega
      · by_cases e2 : run ≥ P
        · exact e2
        · rw [g3 (t + 1 - run - 1) (by omega) (by omega)] at h4
          cases h4
  · rintro (⟨s, g1, g2, g3⟩ | h)
    · exact ⟨s, g1, by omega, g3⟩
    · exact ⟨t + 1 - P, by omega, by omega, fun s g1 g2 => h3 s (by omega) (by omega)⟩
theorem late_yes {p : Int → Bool} {a t P : Int} (hP : 1 ≤ P) (hp : p t = true) : Late p a (t + 1) P ↔ Late p a t P := by
  constructor
  · rintro ⟨s, g1, g2, g3⟩
    by_cases e : s + P ≤ t
    · exact ⟨s, g1, e, g3⟩
    · rw [g3 t (by omega) (by omega)] at hp
      cases hp
  · rintro ⟨s, g1, g2, g3⟩
    exact ⟨s, g1, by omega, g3⟩
theorem lt_mn {a b c : Int} : mn a b < c ↔ a < c ∨ b < c := by
  unfold mn
  split <;> omega
theorem ge_mx {a b c : Int} : mx a b ≥ c ↔ a ≥ c ∨ b ≥ c := by
  unfold mx
  split <;> omega
theorem gaps_loop (l : Rows) (hl : l.length ≤ 200) (n a P : Int) (ha : 0 ≤ a) (hP : 1 ≤ P ∧ P ≤ 400) (q : Nat) : ∀ (k : Nat) (least quiet last run t : Int), a ≤ t → t + q = l.length → q < k → Last (pu l n) a t last → Run (pu l n) a t run → (least < P ↔ Twice (pu l n) a t P) → (quiet ≥ P ↔ Late (pu l n) a t P) →
    ∃ r, window_gaps.l0 k l n least quiet last run t = some r ∧ (r.1 < P ↔ Twice (pu l n) a l.length P) ∧ (r.2 ≥ P ↔ Late (pu l n) a l.length P) := by
  induction q with
  | zero =>
    intro k least quiet last run t h1 h2 hk h3 h4 h5 h6
    obtain ⟨k, rfl⟩ : ∃ j, k = j + 1 := ⟨k - 1, by omega⟩
    simp only [window_gaps.l0]
    rw [if_neg (by omega)]
    obtain rfl : t = l.length := by omega
    exact ⟨_, rfl, h5, h6⟩
  | succ q ih =>
    intro k least quiet last run t h1 h2 hk h3 h4 h5 h6
    obtain ⟨k, rfl⟩ : ∃ j, k = j + 1 := ⟨k - 1, by omega⟩
    simp only [window_gaps.l0]
    obtain ⟨r, e, hr⟩ := at_at l t n
    rw [if_pos (by omega), e, ConfLib.wrap_small (n := t + 1) (by omega) (by omega)]
    simp only [Option.bind_some]
    rw [hr]
    by_cases hp : pu l n t = true
    · rw [if_pos hp]
      rcases h3 with ⟨rfl, g⟩ | ⟨g1, g2, g3, g4⟩
      · rw [if_pos rfl]
        refine ih k _ _ _ _ _ (by omega) (by omega) (by omega) (Last.yes h1 hp) (Run.yes h1 hp) ?_ (h6.trans (late_yes (by omega) hp).symm)
        refine ⟨fun h => absurd (h5.1 h) ?_, fun h => absurd h (twice_first g)⟩
        rintro ⟨s, u, g1, g2, g3, g4, g5, g6⟩
        rw [g s g1 (by omega)] at g4
        cases g4
      · rw [if_neg (by omega), ConfLib.wrap_small (n := t - last) (by omega) (by omega)]
        refine ih k _ _ _ _ _ (by omega) (by omega) (by omega) (Last.yes h1 hp) (Run.yes h1 hp) ?_ (h6.trans (late_yes (by omega) hp).symm)
        rw [lt_mn, h5]
        exact (twice_yes hp g1 g2 g3 g4).symm
    · have hp' : pu l n t = false := by simpa using hp
      have hb := h4.1
      have hb2 := h4.2.1
      rw [if_neg hp, ConfLib.wrap_small (n := run + 1) (by omega) (by omega)]
      refine ih k _ _ _ _ _ (by omega) (by omega) (by omega) (h3.no hp') (h4.no hp') (h5.trans (twice_no hp').symm) ?_
      rw [ge_mx, h6]
      exact (late_no (h4.no hp')).symm
theorem gaps_at (l : Rows) (hl : l.length ≤ 200) (n a P : Int) (ha : 0 ≤ a) (hP : 1 ≤ P ∧ P ≤ 400) {k : Nat} (hk : 300 < k) :
    ∃ r, window_gaps.f k l n a = some r ∧ (r.1 < P ↔ Twice (pu l n) a l.length P) ∧ (r.2 ≥ P ↔ Late (pu l n) a l.length P) := by
  unfold window_gaps.f
  rw [ConfLib.wrap_small (by omega) (by omega)]
  by_cases h : a ≤ l.length
  · refine gaps_loop l hl n a P ha hP (l.length - a.toNat) k _ _ _ _ a (by omega) (by omega) (by omega) (.inl ⟨rfl, fun s h1 h2 => by omega⟩) ⟨by omega, by omega, fun s h1 h2 => by omega, .inl (by omega)⟩ ⟨fun h => by omega, ?_⟩ ⟨fun h => by omega, ?_⟩
    · rintro ⟨s, u, g1, g2, g3, _⟩
      omega
    · rintro ⟨s, g1, g2, _⟩
      omega
  · obtain ⟨k, rfl⟩ : ∃ j, k = j + 1 := ⟨k - 1, by omega⟩
    simp only [window_gaps.l0]
    rw [if_neg (by omega)]
    refine ⟨_, rfl, ⟨fun h => by simp only [] at h; omega, ?_⟩, ⟨fun h => by simp only [] at h; omega, ?_⟩⟩
    · rintro ⟨s, u, g1, g2, g3, _⟩
      omega
    · rintro ⟨s, g1, g2, _⟩
      omega
structure Reg (l : Rows) (ns : List Int) (a P r : Int) : Prop where
  node : ¬ Comm l ns a → r = 7
  twice : Comm l ns a → Twice (pu l (rd ns 0)) a l.length P → r = 13
  late : Comm l ns a → ¬ Twice (pu l (rd ns 0)) a l.length P → Late (pu l (rd ns 0)) a l.length P → r = 10
  ok : Comm l ns a → ¬ Twice (pu l (rd ns 0)) a l.length P → ¬ Late (pu l (rd ns 0)) a l.length P → r = 0
theorem Reg.one {l : Rows} {ns : List Int} {a P r s : Int} (h : Reg l ns a P r) (g : Reg l ns a P s) : r = s := by
  by_cases h1 : Comm l ns a
  · by_cases h2 : Twice (pu l (rd ns 0)) a l.length P
    · rw [h.twice h1 h2, g.twice h1 h2]
    · by_cases h3 : Late (pu l (rd ns 0)) a l.length P
      · rw [h.late h1 h2 h3, g.late h1 h2 h3]
      · rw [h.ok h1 h2 h3, g.ok h1 h2 h3]
  · rw [h.node h1, g.node h1]
theorem mx_nonneg (a : Int) : 0 ≤ mx a 0 := by
  unfold mx
  split <;> omega
end Go.Proofs.Ytmdnmofcgmmfbaa.WinLib
