import Derived.Test.YtmdnmofcgmmfbaaYWindowApart32
set_option linter.unusedVariables false
set_option linter.unusedSimpArgs false
set_option linter.unusedSectionVars false
namespace Go.Proofs.Ytmdnmofcgmmfbaa.WinLib
open Go.RowKit Go.Proofs.Ytmdnmofcgmmfbaa.X Go.Proofs.YtmdnmofcgmmfbaaW.PrintWords Go.Proofs.YtmdnmofcgmmfbaaW.PrintMore Go.Proofs.Ytmdnmofcgmmfbaa.ConfLib
section
variable (n f d p r dr o s m fr : Int) (t : List Int)
theorem win_regular (l : Rows) (hl : l.length ≤ 200) (ns : List Int) (hns : ns.length ≤ 20) (h0 : ns.length ≠ 0) (a : Int) (hp : plain n f d p r dr o s m fr t = 0) {k : Nat} (hk : 2000 < k) :
    ∃ x, window_Regular.f k n f d p r dr o s m fr t l ns a = some x ∧ Reg l ns (mx a 0) p x := by
  have hb := plain_facts hp
  have hm := mul_d (f := f) (d := d) (by omega) (by omega)
  have hpb : 1 ≤ p ∧ p ≤ 400 := by omega
  have ha := mx_nonneg a
  unfold window_Regular.f
  rw [plain_at n f d p r dr o s m fr t (by omega)]
  simp only [Option.bind_some]
  rw [if_pos hp, if_neg (by omega)]
  obtain ⟨b, e1, hc⟩ := commons_loop l hl ns hns 200 k (mx a 0) ha (by omega) (by omega)
  obtain ⟨g, e2, h1, h2⟩ := gaps_at l hl (rd ns 0) (mx a 0) p ha (by omega) (k := k) (by omega)
  unfold window_common.f
  rw [e1, e2]
  simp only [Option.bind_some]
  by_cases hC : b = true
  · rw [if_pos hC, if_pos (by omega)]
    have hC' := hc.1 hC
    by_cases ht : g.1 < p
    · rw [if_pos ht]
      have ht' := h1.1 ht
      exact ⟨_, rfl, ⟨fun h => absurd hC' h, fun _ _ => rfl, fun _ h => absurd ht' h, fun _ h => absurd ht' h⟩⟩
    · rw [if_neg ht]
      have ht' := fun h => ht (h1.2 h)
      by_cases hg : g.2 ≥ p
      · rw [if_pos hg]
        have hg' := h2.1 hg
        exact ⟨_, rfl, ⟨fun h => absurd hC' h, fun _ h => absurd h ht', fun _ _ _ => rfl, fun _ _ h => absurd hg' h⟩⟩
      · rw [if_neg hg]
        have hg' := fun h => hg (h2.2 h)
        exact ⟨_, rfl, ⟨fun h => absurd hC' h, fun _ h => absurd h ht', fun _ _ h => absurd h hg', fun _ _ _ => rfl⟩⟩
  · rw [if_neg hC]
    have hC' := fun h => hC (hc.2 h)
    exact ⟨_, rfl, ⟨fun _ => rfl, fun h => absurd h hC', fun h => absurd h hC', fun h => absurd h hC'⟩⟩
variable (l : Rows) (hl : l.length ≤ 200) (ns : List Int) (hns : ns.length ≤ 20) (h0 : ns.length ≠ 0)
include hl hns h0
theorem node_loop (a : Int) (ha : 0 ≤ a) (v : Int) (b : Nat) (hb : 30 < b) (hn : ∀ k, b < k → bellwetherref37_Regular.l1 k l ns a (-1) a n f d p r dr o s m fr t = some v) (q : Nat) :
    ∀ (k : Nat) (y : Int), 0 ≤ y → l.length ≤ y + q → b + q + 1 < k →
      (¬ Comm l ns y → bellwetherref37_Regular.l0 k l ns a y n f d p r dr o s m fr t = some 7) ∧
      (Comm l ns y → bellwetherref37_Regular.l0 k l ns a y n f d p r dr o s m fr t = some v) := by
  induction q with
  | zero =>
    intro k y hy hq hk
    obtain ⟨k, rfl⟩ : ∃ j, k = j + 1 := ⟨k - 1, by omega⟩
    simp only [bellwetherref37_Regular.l0]
    rw [if_neg (by omega)]
    exact ⟨fun h => absurd (fun s h1 h2 => by omega) h, fun _ => hn k (by omega)⟩
  | succ q ih =>
    intro k y hy hq hk
    obtain ⟨k, rfl⟩ : ∃ j, k = j + 1 := ⟨k - 1, by omega⟩
    simp only [bellwetherref37_Regular.l0]
    by_cases h : y < (l.length : Int)
    · rw [if_pos h, ref_common_at l ns hns y (by omega), ConfLib.wrap_small (by omega) (by omega)]
      simp only [Option.bind_some]
      by_cases hc : comm l ns y = true
      · rw [if_pos hc]
        have hi := ih k (y + 1) (by omega) (by omega) (by omega)
        refine ⟨fun hC => hi.1 (fun h1 => hC (fun s g1 g2 => ?_)), fun hC => hi.2 (fun s g1 g2 => hC s (by omega) g2)⟩
        by_cases e : s = y
        · rw [e]
          exact hc
        · exact h1 s (by omega) g2
      · rw [if_neg hc]
        exact ⟨fun _ => rfl, fun hC => absurd (hC y (by omega) h) hc⟩
    · rw [if_neg h]
      exact ⟨fun hC => absurd (fun s h1 h2 => by omega) hC, fun _ => hn k (by omega)⟩
end
end Go.Proofs.Ytmdnmofcgmmfbaa.WinLib
