import Derived.Test.YtmdnmofcgmmfbaaYWindowApart27
import Derived.Test.YtmdnmofcgmmfbaaYWindowApart33
import Derived.Test.YtmdnmofcgmmfbaaYWindowApart21
set_option linter.unusedVariables false
set_option linter.unusedSimpArgs false
set_option linter.unusedSectionVars false
namespace Go.Proofs.Ytmdnmofcgmmfbaa.windowApart
open Go.RowKit Go.Proofs.Ytmdnmofcgmmfbaa.X Go.Proofs.YtmdnmofcgmmfbaaW.PrintWords Go.Proofs.YtmdnmofcgmmfbaaW.PrintMore Go.Proofs.Ytmdnmofcgmmfbaa.ConfLib Go.Proofs.Ytmdnmofcgmmfbaa.WinLib
theorem known_2000 : bellwetherlaw37_known.f 2000 = some true := by decide +kernel
theorem known {k : Nat} (hk : 2000 ≤ k) : bellwetherlaw37_known.f k = some true := by
  obtain ⟨j, rfl⟩ : ∃ j, k = 2000 + j := ⟨k - 2000, by omega⟩
  induction j with
  | zero => exact known_2000
  | succ j ih => exact bellwetherlaw37_known.mono _ _ (ih (by omega))
theorem i64_bounds {n : Int} (h : (Lit.int .i64 n).wf = true) : -9223372036854775808 ≤ n ∧ n ≤ 9223372036854775807 := by
  simp [Lit.wf, IntKind.min, IntKind.max, IntKind.signed, IntKind.bits] at h
  omega
def tick (p p0 first : Bool) (a P last x : Int) : Bool :=
  (p == p0) && (!(p && !first) || decide (x - last = P)) && (if (if p then false else first) then decide (x - a + 1 < P) else decide (x - (if p then x else last) < P))
def rest (p p0 : Int → Bool) (a P : Int) : Nat → Int → Bool → Int → Prop
  | 0, _, _, _ => True
  | q + 1, last, first, x => tick (p x) (p0 x) first a P last x = true ∧ rest p p0 a P q (if p x then x else last) (if p x then false else first) (x + 1)
theorem rest_same {p p0 : Int → Bool} {a P : Int} (q : Nat) : ∀ (last : Int) (first : Bool) (x : Int), rest p p0 a P q last first x ↔ (∀ s, x ≤ s → s < x + q → p s = p0 s) ∧ rest p0 p0 a P q last first x := by
  induction q with
  | zero => exact fun last first x => ⟨fun _ => ⟨fun s h1 h2 => by omega, trivial⟩, fun _ => trivial⟩
  | succ q ih =>
    intro last first x
    simp only [rest]
    by_cases h : p x = p0 x
    · rw [h, ih]
      constructor
      · rintro ⟨h1, h2, h3⟩
        refine ⟨fun s g1 g2 => ?_, h1, h3⟩
        by_cases e : s = x
        · rw [e, h]
        · exact h2 s (by omega) (by omega)
      · rintro ⟨h1, h2, h3⟩
        exact ⟨h2, fun s g1 g2 => h1 s (by omega) (by omega), h3⟩
    · refine ⟨fun h1 => absurd ?_ h, fun h1 => absurd (h1.1 x (by omega) (by omega)) h⟩
      have := h1.1
      unfold tick at this
      simp only [Bool.and_eq_true, beq_iff_eq] at this
      exact this.1.1
theorem rest_iff {p : Int → Bool} {a P : Int} (hP : 1 ≤ P) (q : Nat) : ∀ (last : Int) (first : Bool) (x : Int), a ≤ x → ((first = true ∧ ∀ s, a ≤ s → s < x → p s = false) ∨ (first = false ∧ a ≤ last ∧ last < x ∧ p last = true ∧ ∀ s, last < s → s < x → p s = false)) →
    ¬ Twice p a x P → ¬ Late p a x P → (rest p p a P q last first x ↔ ¬ Twice p a (x + q) P ∧ ¬ Late p a (x + q) P) := by
  induction q with
  | zero =>
    intro last first x hx hs hT hL
    simp only [rest, Int.ofNat_zero, Int.natCast_zero, Int.add_zero]
    exact ⟨fun _ => ⟨hT, hL⟩, fun _ => trivial⟩
  | succ q ih =>
    intro last first x hx hs hT hL
    have e : x + ((q + 1 : Nat) : Int) = x + 1 + q := by omega
    have up : ∀ {u v : Int}, u ≤ v → Twice p a u P → Twice p a v P := fun h ⟨s, u, g1, g2, g3, g4⟩ => ⟨s, u, g1, g2, by omega, g4⟩
    have upL : ∀ {u v : Int}, u ≤ v → Late p a u P → Late p a v P := fun h ⟨s, g1, g2, g3⟩ => ⟨s, g1, by omega, g3⟩
    rw [e]
    simp only [rest]
    cases hp : p x with
    | true =>
      simp only [tick, beq_self_eq_true, Bool.true_and, if_true]
      rcases hs with ⟨rfl, g⟩ | ⟨rfl, g1, g2, g3, g4⟩
      · have := ih x false (x + 1) (by omega) (.inr ⟨rfl, hx, by omega, hp, fun s h1 h2 => by omega⟩) (twice_first g) (fun h => hL ((late_yes hP hp).1 h))
        simp only [Bool.not_true, Bool.and_false, Bool.not_false, Bool.true_or, Bool.true_and, Bool.false_eq_true, if_false, decide_eq_true_eq]
        rw [← this]
        exact ⟨fun h => h.2, fun h => ⟨by omega, h⟩⟩
      · simp only [Bool.not_false, Bool.and_true, Bool.not_true, Bool.false_or, Bool.false_eq_true, if_false, Bool.and_eq_true, decide_eq_true_eq]
        have hle : x - last ≤ P := by
          refine Classical.byContradiction (fun hn => hL ⟨last + 1, by omega, by omega, fun s h1 h2 => g4 s (by omega) (by omega)⟩)
        by_cases hd : x - last = P
        · have := ih x false (x + 1) (by omega) (.inr ⟨rfl, hx, by omega, hp, fun s h1 h2 => by omega⟩) (fun h => ((twice_yes hp g1 g2 g3 g4).1 h).elim hT (by omega)) (fun h => hL ((late_yes hP hp).1 h))
          rw [← this]
          exact ⟨fun h => h.2, fun h => ⟨⟨hd, by omega⟩, h⟩⟩
        · refine ⟨fun h => absurd h.1.1 hd, fun h => absurd (up (by omega) ((twice_yes hp g1 g2 g3 g4).2 (.inr (by omega)))) h.1⟩
    | false =>
      simp only [tick, beq_self_eq_true, Bool.true_and, Bool.false_and, Bool.not_false, Bool.true_or, Bool.false_eq_true, if_false]
      rcases hs with ⟨rfl, g⟩ | ⟨rfl, g1, g2, g3, g4⟩
      · have g' : ∀ s, a ≤ s → s < x + 1 → p s = false := by
          intro s h1 h2
          by_cases e : s = x
          · rw [e, hp]
          · exact g s h1 (by omega)
        simp only [if_true, decide_eq_true_eq]
        by_cases hd : x - a + 1 < P
        · have := ih last true (x + 1) (by omega) (.inl ⟨rfl, g'⟩) (fun h => hT ((twice_no hp).1 h)) (by rintro ⟨s, h1, h2, _⟩; omega)
          rw [← this]
          exact ⟨fun h => h.2, fun h => ⟨hd, h⟩⟩
        · exact ⟨fun h => absurd h.1 hd, fun h => absurd (upL (v := x + 1 + q) (u := x + 1) (by omega) ⟨a, by omega, by omega, fun s h1 h2 => g' s h1 (by omega)⟩) h.2⟩
      · have g4' : ∀ s, last < s → s < x + 1 → p s = false := by
          intro s h1 h2
          by_cases e : s = x
          · rw [e, hp]
          · exact g4 s h1 (by omega)
        simp only [Bool.false_eq_true, if_false, decide_eq_true_eq]
        by_cases hd : x - last < P
        · have := ih last false (x + 1) (by omega) (.inr ⟨rfl, g1, by omega, g3, g4'⟩) (fun h => hT ((twice_no hp).1 h)) (by
            rintro ⟨s, h1, h2, h3⟩
            by_cases e : s + P ≤ x
            · exact hL ⟨s, h1, e, h3⟩
            · rw [h3 last (by omega) (by omega)] at g3
              cases g3)
          rw [← this]
          exact ⟨fun h => h.2, fun h => ⟨hd, h⟩⟩
        · exact ⟨fun h => absurd h.1 hd, fun h => absurd (upL (v := x + 1 + q) (u := x + 1) (by omega) ⟨last + 1, by omega, by omega, fun s h1 h2 => g4' s (by omega) (by omega)⟩) h.2⟩
section
variable (n f d p r dr o s m fr : Int) (t : List Int) (l : WinLib.Rows) (hl : l.length ≤ 200) (ns : List Int) (hns : ns.length ≤ 20) (h0 : ns.length ≠ 0) (a : Int) (ha : 0 ≤ a) (ha2 : a ≤ 9223372036854775807)
include hl hns h0 ha ha2
theorem step (g : Bool) (i : Nat) (hi : i < ns.length) (last : Int) (first : Bool) (x : Int) (hx : a ≤ x) (hxl : x < l.length) (hlast : -1 ≤ last) (hlx : last ≤ x) (k : Nat) :
    bellwetherlaw37_WindowApart.l1 (k + 5) l ns a g (i : Int) last first x n f d p r dr o s m fr t =
    bellwetherlaw37_WindowApart.l1 k l ns a (g && tick (pu l (rd ns i) x) (pu l (rd ns 0) x) first a p last x) (i : Int) (if pu l (rd ns i) x then x else last) (if pu l (rd ns i) x then false else first) (x + 1) n f d p r dr o s m fr t := by
  obtain ⟨r1, e1, h1⟩ := ref_at l x (rd ns i)
  obtain ⟨r2, e2, h2⟩ := ref_at l x (rd ns 0)
  have hi' : (i : Int) < (ns.length : Int) := by omega
  have hi0 : (0 : Int) ≤ (i : Int) := by omega
  have hn0 : (0 : Int) < (ns.length : Int) := by omega
  simp only [bellwetherlaw37_WindowApart.l1, bellwetherlaw37_WindowApart.j3, bellwetherlaw37_WindowApart.j4, bellwetherlaw37_WindowApart.j5, bellwetherlaw37_WindowApart.j6]
  rw [if_pos hxl, if_pos hi0, if_pos hi', e1, e2]
  simp only [Option.bind_some, h1, h2]
  rw [if_pos hn0, ConfLib.wrap_small (n := x - last) (by omega) (by omega), ConfLib.wrap_small (n := x - x) (by omega) (by omega), ConfLib.wrap_small (n := x + 1) (by omega) (by omega), ConfLib.wrap_small (n := x - a) (by omega) (by omega), ConfLib.wrap_small (n := x - a + 1) (by omega) (by omega)]
  simp only [tick]
  cases g <;> cases pu l (rd ns i) x <;> cases pu l (rd ns 0) x <;> cases first <;> simp
  all_goals
    by_cases hd : x - last = p
    · simp [hd]
    · simp [hd]
theorem node_loop (OK R : Prop) (b : Nat) (i : Nat) (hi : i < ns.length) (hn : ∀ (k : Nat) (g : Bool), b < k → ((g = true ∧ R) ↔ OK) → bellwetherlaw37_WindowApart.l0 k l ns a g ((i : Int) + 1) n f d p r dr o s m fr t = some true) (q : Nat) :
    ∀ (k : Nat) (g : Bool) (last : Int) (first : Bool) (x : Int), a ≤ x → x + q = l.length → -1 ≤ last → last ≤ x → b + 5 * q + 1 < k →
      ((g = true ∧ rest (pu l (rd ns i)) (pu l (rd ns 0)) a p q last first x ∧ R) ↔ OK) → bellwetherlaw37_WindowApart.l1 k l ns a g (i : Int) last first x n f d p r dr o s m fr t = some true := by
  induction q with
  | zero =>
    intro k g last first x hx hq h1 h2 hk hO
    obtain ⟨k, rfl⟩ : ∃ j, k = j + 1 := ⟨k - 1, by omega⟩
    simp only [bellwetherlaw37_WindowApart.l1]
    rw [if_neg (by omega), ConfLib.wrap_small (by omega) (by omega)]
    refine hn k g (by omega) ?_
    rw [← hO]
    simp only [rest]
    exact ⟨fun h => ⟨h.1, trivial, h.2⟩, fun h => ⟨h.1, h.2.2⟩⟩
  | succ q ih =>
    intro k g last first x hx hq h1 h2 hk hO
    obtain ⟨k, rfl⟩ : ∃ j, k = j + 5 := ⟨k - 5, by omega⟩
    rw [step n f d p r dr o s m fr t l hl ns hns h0 a ha ha2 g i hi last first x hx (by omega) h1 h2 k]
    refine ih k _ _ _ _ (by omega) (by omega) ?_ ?_ (by omega) ?_
    · split <;> omega
    · split <;> omega
    · rw [← hO]
      simp only [rest, Bool.and_eq_true]
      exact ⟨fun h => ⟨h.1.1, ⟨h.1.2, h.2.1⟩, h.2.2⟩, fun h => ⟨⟨h.1, h.2.1.1⟩, h.2.1.2, h.2.2⟩⟩
theorem nodes_loop (OK : Prop) (hpb : 1 ≤ p ∧ p ≤ 400) (hend : ∀ (k : Nat) (g : Bool), 130000 < k → (g = true ↔ OK) → bellwetherlaw37_WindowApart.l0 k l ns a g (ns.length : Int) n f d p r dr o s m fr t = some true) (q : Nat) :
    ∀ (k : Nat) (g : Bool) (i : Nat), i + q = ns.length → 130000 + 1100 * q < k →
      ((g = true ∧ ∀ j : Nat, i ≤ j → j < ns.length → rest (pu l (rd ns j)) (pu l (rd ns 0)) a p (l.length - a.toNat) (a - 1) true a) ↔ OK) → bellwetherlaw37_WindowApart.l0 k l ns a g (i : Int) n f d p r dr o s m fr t = some true := by
  induction q with
  | zero =>
    intro k g i hi hk hO
    obtain rfl : i = ns.length := by omega
    refine hend k g (by omega) ?_
    rw [← hO]
    exact ⟨fun h => ⟨h, fun j h1 h2 => by omega⟩, fun h => h.1⟩
  | succ q ih =>
    intro k g i hi hk hO
    obtain ⟨k, rfl⟩ : ∃ j, k = j + 1 := ⟨k - 1, by omega⟩
    simp only [bellwetherlaw37_WindowApart.l0]
    have hi1 : (i : Int) < (ns.length : Int) := by omega
    rw [if_pos hi1, ConfLib.wrap_small (n := a - 1) (by omega) (by omega)]
    have hnext : ∀ (k : Nat) (g : Bool), 130000 + 1100 * q < k → ((g = true ∧ ∀ j : Nat, i + 1 ≤ j → j < ns.length → rest (pu l (rd ns j)) (pu l (rd ns 0)) a p (l.length - a.toNat) (a - 1) true a) ↔ OK) → bellwetherlaw37_WindowApart.l0 k l ns a g ((i : Int) + 1) n f d p r dr o s m fr t = some true := fun k g hk hO => ih k g (i + 1) (by omega) hk hO
    have hsplit : (g = true ∧ rest (pu l (rd ns i)) (pu l (rd ns 0)) a p (l.length - a.toNat) (a - 1) true a ∧ ∀ j : Nat, i + 1 ≤ j → j < ns.length → rest (pu l (rd ns j)) (pu l (rd ns 0)) a p (l.length - a.toNat) (a - 1) true a) ↔ OK := by
      rw [← hO]
      constructor
      · rintro ⟨h1, h2, h3⟩
        refine ⟨h1, fun j g1 g2 => ?_⟩
        by_cases e : j = i
        · rw [e]
          exact h2
        · exact h3 j (by omega) g2
      · rintro ⟨h1, h2⟩
        exact ⟨h1, h2 i (by omega) (by omega), fun j g1 g2 => h2 j (by omega) g2⟩
    by_cases hal : a ≤ l.length
    · exact node_loop n f d p r dr o s m fr t l hl ns hns h0 a ha ha2 OK _ (130000 + 1100 * q) i (by omega) hnext (l.length - a.toNat) k g (a - 1) true a (by omega) (by omega) (by omega) (by omega) (by omega) hsplit
    · obtain ⟨k, rfl⟩ : ∃ j, k = j + 1 := ⟨k - 1, by omega⟩
      simp only [bellwetherlaw37_WindowApart.l1]
      rw [if_neg (by omega), ConfLib.wrap_small (by omega) (by omega)]
      refine hnext k g (by omega) ?_
      rw [← hsplit, show l.length - a.toNat = 0 by omega]
      exact ⟨fun h => ⟨h.1, trivial, h.2⟩, fun h => ⟨h.1, h.2.2⟩⟩
theorem all_iff (hpb : 1 ≤ p ∧ p ≤ 400) : (∀ j : Nat, 0 ≤ j → j < ns.length → rest (pu l (rd ns j)) (pu l (rd ns 0)) a p (l.length - a.toNat) (a - 1) true a) ↔ (Comm l ns a ∧ ¬ Twice (pu l (rd ns 0)) a l.length p ∧ ¬ Late (pu l (rd ns 0)) a l.length p) := by
  by_cases hal : a ≤ l.length
  · have hr := rest_iff (p := pu l (rd ns 0)) (a := a) (P := p) (by omega) (l.length - a.toNat) (a - 1) true a (by omega) (.inl ⟨rfl, fun s h1 h2 => by omega⟩) (by rintro ⟨s, u, g1, g2, g3, _⟩; omega) (by rintro ⟨s, g1, g2, _⟩; omega)
    rw [show a + ((l.length - a.toNat : Nat) : Int) = l.length by omega] at hr
    rw [← hr]
    have hc : ∀ j : Nat, j < ns.length → ∀ x, rd ns (j : Int) = ns[j]'(by omega) := by
      intro j hj _
      exact rd_at hj
    constructor
    · intro h
      refine ⟨fun x h1 h2 => ?_, h 0 (by omega) (by omega)⟩
      unfold comm
      rw [List.all_eq_true]
      intro y hy
      obtain ⟨j, hj, rfl⟩ := List.mem_iff_getElem.1 hy
      have := ((rest_same _ _ _ _).1 (h j (by omega) hj)).1 x h1 (by omega)
      rw [rd_at hj] at this
      rw [this]
      exact beq_self_eq_true _
    · rintro ⟨hC, h⟩ j _ hj
      refine (rest_same _ _ _ _).2 ⟨fun x h1 h2 => ?_, h⟩
      have := hC x h1 (by omega)
      unfold comm at this
      rw [List.all_eq_true] at this
      have := this (ns[j]) (List.getElem_mem hj)
      rw [rd_at hj]
      exact eq_of_beq this
  · rw [show l.length - a.toNat = 0 by omega]
    refine ⟨fun _ => ⟨fun x h1 h2 => by omega, ?_, ?_⟩, fun _ _ _ _ => trivial⟩
    · rintro ⟨s, u, g1, g2, g3, _⟩
      omega
    · rintro ⟨s, g1, g2, _⟩
      omega
end
theorem pure : Pure := by
  rintro ⟨n, f, d, p, r, dr, o, s, m, fr, t⟩ l ns a _ _ _ ha64
  have hab := i64_bounds ha64
  refine ⟨200000, ?_⟩
  have ht : ∀ k, 3000 ≤ k → bellwetherlaw37_WindowApart.j0 k l ns a true n f d p r dr o s m fr t = some true := by
    intro k hk
    obtain ⟨k, rfl⟩ : ∃ j, k = j + 1 := ⟨k - 1, by omega⟩
    simp only [bellwetherlaw37_WindowApart.j0]
    rw [if_pos trivial, known (by omega)]
    rfl
  unfold bellwetherlaw37_WindowApart.f
  obtain ⟨b, e⟩ := few_some l (k := 200000) (by omega)
  have hb := few_len e
  rw [e, ref_plain_at n f d p r dr o s m fr t (by omega)]
  simp only [Option.bind_some]
  by_cases h1 : b = true
  · have hl := hb h1
    rw [if_pos h1]
    by_cases hp : plain n f d p r dr o s m fr t = 0
    · rw [if_pos hp]
      by_cases h2 : (ns.length : Int) = 0
      · rw [if_pos h2]
        exact ht _ (by omega)
      rw [if_neg h2]
      by_cases h3 : (ns.length : Int) > 20
      · rw [if_pos h3]
        exact ht _ (by omega)
      rw [if_neg h3]
      by_cases h4 : a < 0
      · rw [decide_eq_true h4]
        exact ht _ (by omega)
      rw [decide_eq_false h4, show 200000 = 199999 + 1 from rfl]
      simp only [bellwetherlaw37_WindowApart.j0]
      rw [if_neg (by decide)]
      have hbp := plain_facts hp
      have hm := mul_d (f := f) (d := d) (by omega) (by omega)
      have hmx : mx a 0 = a := by
        unfold mx
        rw [if_neg h4]
      refine nodes_loop n f d p r dr o s m fr t l (by omega) ns (by omega) (by omega) a (by omega) (by omega) (Comm l ns a ∧ ¬ Twice (pu l (rd ns 0)) a l.length p ∧ ¬ Late (pu l (rd ns 0)) a l.length p) (by omega) ?_ ns.length 199999 true 0 (by omega) (by omega) ?_
      · intro k g hk hg
        obtain ⟨k, rfl⟩ : ∃ j, k = j + 1 := ⟨k - 1, by omega⟩
        simp only [bellwetherlaw37_WindowApart.l0]
        obtain ⟨x, e1, hx⟩ := win_regular n f d p r dr o s m fr t l (by omega) ns (by omega) (by omega) a hp (k := k) (by omega)
        rw [hmx] at hx
        have hx0 : (x == 0) = g := by
          by_cases hO : Comm l ns a ∧ ¬ Twice (pu l (rd ns 0)) a l.length p ∧ ¬ Late (pu l (rd ns 0)) a l.length p
          · rw [hx.ok hO.1 hO.2.1 hO.2.2, hg.2 hO]
            rfl
          · have hg' : g = false := by
              cases g with
              | false => rfl
              | true => exact absurd (hg.1 rfl) hO
            rw [hg']
            by_cases hC : Comm l ns a
            · by_cases hT : Twice (pu l (rd ns 0)) a l.length p
              · rw [hx.twice hC hT]
                rfl
              · by_cases hL : Late (pu l (rd ns 0)) a l.length p
                · rw [hx.late hC hT hL]
                  rfl
                · exact absurd ⟨hC, hT, hL⟩ hO
            · rw [hx.node hC]
              rfl
        rw [if_neg (by omega), e1]
        simp only [Option.bind_some]
        rw [hx0, beq_self_eq_true, if_pos rfl, known (by omega)]
        rfl
      · have := all_iff p l (by omega) ns (by omega) (by omega) a (by omega) (by omega) (by omega)
        rw [← this]
        exact ⟨fun h => h.2, fun h => ⟨rfl, h⟩⟩
    · rw [if_neg hp]
      exact ht _ (by omega)
  · rw [if_neg h1]
    exact ht _ (by omega)
end Go.Proofs.Ytmdnmofcgmmfbaa.windowApart
