import Derived.Test.YtmdnmofcgmmfbaaYWindowRegular31
set_option linter.unusedVariables false
set_option linter.unusedSimpArgs false
set_option linter.unusedSectionVars false
namespace Go.Proofs.Ytmdnmofcgmmfbaa.WinLib
open Go.RowKit Go.Proofs.Ytmdnmofcgmmfbaa.X Go.Proofs.YtmdnmofcgmmfbaaW.PrintWords Go.Proofs.YtmdnmofcgmmfbaaW.PrintMore Go.Proofs.Ytmdnmofcgmmfbaa.ConfLib
section
variable (n f d p r dr o s m fr : Int) (t : List Int)
theorem win_regular (l : Rows) (hl : l.length ≤ 200) (ns : List Int) (hns : ns.length ≤ 20) (h0 : ns.length ≠ 0) (a : Int) (hp : plain n f d p r dr o s m fr t = 0) {k : Nat} (hk : 2000 < k) :
    ∃ x, window_Regular.f k n f d p r dr o s m fr t l ns a = some x ∧ Reg l ns (mx a 0) p x := by
  have hb := plain_facts hp
  have hm := mul_d (f := f) (d := d) (by omega) (by omega)
  have hpb : 1 ≤ p ∧ p ≤ 400 := by omega
  have ha := mx_nonneg a
  unfold window_Regular.f
  rw [plain_at n f d p r dr o s m fr t (by omega)]
  simp only [Option.bind_some]
  rw [if_pos hp, if_neg (by omega)]
  obtain ⟨b, e1, hc⟩ := commons_loop l hl ns hns 200 k (mx a 0) ha (by omega) (by omega)
  obtain ⟨g, e2, h1, h2⟩ := gaps_at l hl (rd ns 0) (mx a 0) p ha (by omega) (k := k) (by omega)
  unfold window_common.f
  rw [e1, e2]
  simp only [Option.bind_some]
  by_cases hC : b = true
  · rw [if_pos hC, if_pos (by omega)]
    have hC' := hc.1 hC
    by_cases ht : g.1 < p
    · rw [if_pos ht]
      have ht' := h1.1 ht
      exact ⟨_, rfl, ⟨fun h => absurd hC' h, fun _ _ => rfl, fun _ h => absurd ht' h, fun _ h => absurd ht' h⟩⟩
    · rw [if_neg ht]
      have ht' := fun h => ht (h1.2 h)
      by_cases hg : g.2 ≥ p
      · rw [if_pos hg]
        have hg' := h2.1 hg
        exact ⟨_, rfl, ⟨fun h => absurd hC' h, fun _ h => absurd h ht', fun _ _ _ => rfl, fun _ _ h => absurd hg' h⟩⟩
      · rw [if_neg hg]
        have hg' := fun h => hg (h2.2 h)
        exact ⟨_, rfl, ⟨fun h => absurd hC' h, fun _ h => absurd h ht', fun _ _ h => absurd h hg', fun _ _ _ => rfl⟩⟩
  · rw [if_neg hC]
    have hC' := fun h => hC (hc.2 h)
    exact ⟨_, rfl, ⟨fun _ => rfl, fun h => absurd h hC', fun h => absurd h hC', fun h => absurd h hC'⟩⟩
variable (l : Rows) (hl : l.length ≤ 200) (ns : List Int) (hns : ns.length ≤ 20) (h0 : ns.length ≠ 0)
include hl hns h0
theorem any_loop (hb : 1 ≤ p ∧ p ≤ 400) (x : Int) (hx : 0 ≤ x) (hxl : x < l.length) (v : Int) (b : Nat) (hn : ∀ k, b < k → bellwetherref37_Regular.l2 k l ns (x + 1) n f d p r dr o s m fr t = some v) (q : Nat) :
    ∀ (k : Nat) (any : Bool) (y : Int), x ≤ y → y + q = x + p → b + q + 1 < k →
      ((any = true ∨ ∃ z, y ≤ z ∧ z < x + p ∧ pu l (rd ns 0) z = true) → bellwetherref37_Regular.l3 k l ns x any y n f d p r dr o s m fr t = some v) ∧
      ((any = false ∧ ∀ z, y ≤ z → z < x + p → pu l (rd ns 0) z = false) → bellwetherref37_Regular.l3 k l ns x any y n f d p r dr o s m fr t = some 10) := by
  induction q with
  | zero =>
    intro k any y hy hq hk
    obtain ⟨k, rfl⟩ : ∃ j, k = j + 1 := ⟨k - 1, by omega⟩
    simp only [bellwetherref37_Regular.l3]
    rw [ConfLib.wrap_small (n := x + p) (by omega) (by omega), if_neg (by omega)]
    constructor
    · rintro (h | ⟨z, h1, h2, _⟩)
      · rw [if_pos h, ConfLib.wrap_small (by omega) (by omega)]
        exact hn k (by omega)
      · omega
    · rintro ⟨h, _⟩
      rw [if_neg (by rw [h]; decide)]
  | succ q ih =>
    intro k any y hy hq hk
    obtain ⟨k, rfl⟩ : ∃ j, k = j + 1 := ⟨k - 1, by omega⟩
    simp only [bellwetherref37_Regular.l3]
    rw [ConfLib.wrap_small (n := x + p) (by omega) (by omega), if_pos (by omega), ConfLib.wrap_small (n := y + 1) (by omega) (by omega)]
    cases any with
    | true =>
      rw [if_pos rfl]
      exact ⟨fun _ => (ih k true (y + 1) (by omega) (by omega) (by omega)).1 (.inl rfl), fun h => by cases h.1⟩
    | false =>
      obtain ⟨r1, e1, h1⟩ := ref_at l y (rd ns 0)
      rw [if_neg (by decide), if_pos (by omega), e1]
      simp only [Option.bind_some]
      rw [h1]
      have hi := ih k (pu l (rd ns 0) y) (y + 1) (by omega) (by omega) (by omega)
      constructor
      · rintro (h | ⟨z, g1, g2, g3⟩)
        · cases h
        · refine hi.1 ?_
          by_cases e : z = y
          · rw [e] at g3
            exact .inl g3
          · exact .inr ⟨z, by omega, g2, g3⟩
      · rintro ⟨_, h⟩
        exact hi.2 ⟨h y (by omega) (by omega), fun z g1 g2 => h z (by omega) g2⟩
theorem late_loop (hb : 1 ≤ p ∧ p ≤ 400) (q : Nat) : ∀ (k : Nat) (x : Int), 0 ≤ x → x ≤ 9223372036854775807 → l.length ≤ x + q → 500 * q + 1 < k →
      (Late (pu l (rd ns 0)) x l.length p → bellwetherref37_Regular.l2 k l ns x n f d p r dr o s m fr t = some 10) ∧
      (¬ Late (pu l (rd ns 0)) x l.length p → bellwetherref37_Regular.l2 k l ns x n f d p r dr o s m fr t = some 0) := by
  induction q with
  | zero =>
    intro k x hx hx2 hq hk
    obtain ⟨k, rfl⟩ : ∃ j, k = j + 1 := ⟨k - 1, by omega⟩
    simp only [bellwetherref37_Regular.l2]
    rw [ConfLib.wrap_small (by omega) (by omega), if_neg (by omega)]
    refine ⟨?_, fun _ => rfl⟩
    rintro ⟨z, h1, h2, _⟩
    omega
  | succ q ih =>
    intro k x hx hx2 hq hk
    obtain ⟨k, rfl⟩ : ∃ j, k = j + 1 := ⟨k - 1, by omega⟩
    simp only [bellwetherref37_Regular.l2]
    rw [ConfLib.wrap_small (by omega) (by omega)]
    by_cases h : (l.length : Int) - x ≥ p
    · rw [if_pos h]
      have hst : Late (pu l (rd ns 0)) x l.length p ↔ (∀ z, x ≤ z → z < x + p → pu l (rd ns 0) z = false) ∨ Late (pu l (rd ns 0)) (x + 1) l.length p := by
        constructor
        · rintro ⟨z, h1, h2, h3⟩
          by_cases e : z = x
          · rw [e] at h3
            exact .inl h3
          · exact .inr ⟨z, by omega, h2, h3⟩
        · rintro (h | ⟨z, h1, h2, h3⟩)
          · exact ⟨x, by omega, by omega, h⟩
          · exact ⟨z, by omega, h2, h3⟩
      by_cases hw : ∀ z, x ≤ z → z < x + p → pu l (rd ns 0) z = false
      · refine ⟨fun _ => ?_, fun h => absurd (hst.2 (.inl hw)) h⟩
        by_cases hL : Late (pu l (rd ns 0)) (x + 1) l.length p
        · exact (any_loop n f d p r dr o s m fr t l hl ns hns h0 hb x hx (by omega) 10 (500 * q + 1) (fun k hk => (ih k (x + 1) (by omega) (by omega) (by omega) (by omega)).1 hL) p.toNat k false x (by omega) (by omega) (by omega)).2 ⟨rfl, hw⟩
        · exact (any_loop n f d p r dr o s m fr t l hl ns hns h0 hb x hx (by omega) 0 (500 * q + 1) (fun k hk => (ih k (x + 1) (by omega) (by omega) (by omega) (by omega)).2 hL) p.toNat k false x (by omega) (by omega) (by omega)).2 ⟨rfl, hw⟩
      · have hz : ∃ z, x ≤ z ∧ z < x + p ∧ pu l (rd ns 0) z = true := by
          refine Classical.byContradiction (fun hn => hw (fun z g1 g2 => ?_))
          cases g3 : pu l (rd ns 0) z with
          | false => rfl
          | true => exact absurd ⟨z, g1, g2, g3⟩ hn
        refine ⟨fun h => ?_, fun h => ?_⟩
        · have hL := (hst.1 h).resolve_left hw
          exact (any_loop n f d p r dr o s m fr t l hl ns hns h0 hb x hx (by omega) 10 (500 * q + 1) (fun k hk => (ih k (x + 1) (by omega) (by omega) (by omega) (by omega)).1 hL) p.toNat k false x (by omega) (by omega) (by omega)).1 (.inr hz)
        · have hL := fun g => h (hst.2 (.inr g))
          exact (any_loop n f d p r dr o s m fr t l hl ns hns h0 hb x hx (by omega) 0 (500 * q + 1) (fun k hk => (ih k (x + 1) (by omega) (by omega) (by omega) (by omega)).2 hL) p.toNat k false x (by omega) (by omega) (by omega)).1 (.inr hz)
    · rw [if_neg h]
      refine ⟨?_, fun _ => rfl⟩
      rintro ⟨z, h1, h2, _⟩
      omega
theorem twice_loop (hb : 1 ≤ p ∧ p ≤ 400) (a : Int) (ha : 0 ≤ a) (v : Int) (b : Nat) (hn : ∀ k, b < k → bellwetherref37_Regular.l2 k l ns a n f d p r dr o s m fr t = some v) (q : Nat) :
    ∀ (k : Nat) (last y : Int), a ≤ y → y + q = l.length → b + q + 1 < k → Last (pu l (rd ns 0)) a y last → ¬ Twice (pu l (rd ns 0)) a y p →
      (Twice (pu l (rd ns 0)) a l.length p → bellwetherref37_Regular.l1 k l ns a last y n f d p r dr o s m fr t = some 13) ∧
      (¬ Twice (pu l (rd ns 0)) a l.length p → bellwetherref37_Regular.l1 k l ns a last y n f d p r dr o s m fr t = some v) := by
  induction q with
  | zero =>
    intro k last y hy hq hk hL hT
    obtain ⟨k, rfl⟩ : ∃ j, k = j + 1 := ⟨k - 1, by omega⟩
    simp only [bellwetherref37_Regular.l1]
    rw [if_neg (by omega)]
    obtain rfl : y = l.length := by omega
    exact ⟨fun h => absurd h hT, fun _ => hn k (by omega)⟩
  | succ q ih =>
    intro k last y hy hq hk hL hT
    obtain ⟨k, rfl⟩ : ∃ j, k = j + 1 := ⟨k - 1, by omega⟩
    simp only [bellwetherref37_Regular.l1]
    obtain ⟨r1, e1, h1⟩ := ref_at l y (rd ns 0)
    rw [if_pos (by omega), if_pos (by omega), e1, ConfLib.wrap_small (n := y + 1) (by omega) (by omega)]
    simp only [Option.bind_some]
    rw [h1]
    by_cases hp : pu l (rd ns 0) y = true
    · rw [if_pos hp]
      rcases hL with ⟨rfl, g⟩ | ⟨g1, g2, g3, g4⟩
      · rw [if_neg (by omega)]
        exact ih k y (y + 1) (by omega) (by omega) (by omega) (Last.yes hy hp) (twice_first g)
      · rw [if_pos (by omega), ConfLib.wrap_small (n := y - last) (by omega) (by omega)]
        by_cases hd : y - last < p
        · rw [if_pos hd]
          have hT2 : Twice (pu l (rd ns 0)) a l.length p := ⟨last, y, g1, g2, by omega, g3, hp, hd⟩
          exact ⟨fun _ => rfl, fun h => absurd hT2 h⟩
        · rw [if_neg hd]
          exact ih k y (y + 1) (by omega) (by omega) (by omega) (Last.yes hy hp) (fun h => ((twice_yes hp g1 g2 g3 g4).1 h).elim hT hd)
    · have hp' : pu l (rd ns 0) y = false := by simpa using hp
      rw [if_neg hp]
      exact ih k last (y + 1) (by omega) (by omega) (by omega) (hL.no hp') (fun h => hT ((twice_no hp').1 h))
theorem node_loop (a : Int) (ha : 0 ≤ a) (v : Int) (b : Nat) (hb : 30 < b) (hn : ∀ k, b < k → bellwetherref37_Regular.l1 k l ns a (-1) a n f d p r dr o s m fr t = some v) (q : Nat) :
    ∀ (k : Nat) (y : Int), 0 ≤ y → l.length ≤ y + q → b + q + 1 < k →
      (¬ Comm l ns y → bellwetherref37_Regular.l0 k l ns a y n f d p r dr o s m fr t = some 7) ∧
      (Comm l ns y → bellwetherref37_Regular.l0 k l ns a y n f d p r dr o s m fr t = some v) := by
  induction q with
  | zero =>
    intro k y hy hq hk
    obtain ⟨k, rfl⟩ : ∃ j, k = j + 1 := ⟨k - 1, by omega⟩
    simp only [bellwetherref37_Regular.l0]
    rw [if_neg (by omega)]
    exact ⟨fun h => absurd (fun s h1 h2 => by omega) h, fun _ => hn k (by omega)⟩
  | succ q ih =>
    intro k y hy hq hk
    obtain ⟨k, rfl⟩ : ∃ j, k = j + 1 := ⟨k - 1, by omega⟩
    simp only [bellwetherref37_Regular.l0]
    by_cases h : y < (l.length : Int)
    · rw [if_pos h, ref_common_at l ns hns y (by omega), ConfLib.wrap_small (by omega) (by omega)]
      simp only [Option.bind_some]
      by_cases hc : comm l ns y = true
      · rw [if_pos hc]
        have hi := ih k (y + 1) (by omega) (by omega) (by omega)
        refine ⟨fun hC => hi.1 (fun h1 => hC (fun s g1 g2 => ?_)), fun hC => hi.2 (fun s g1 g2 => hC s (by omega) g2)⟩
        by_cases e : s = y
        · rw [e]
          exact hc
        · exact h1 s (by omega) g2
      · rw [if_neg hc]
        exact ⟨fun _ => rfl, fun hC => absurd (hC y (by omega) h) hc⟩
    · rw [if_neg h]
      exact ⟨fun hC => absurd (fun s h1 h2 => by omega) hC, fun _ => hn k (by omega)⟩
theorem ref_regular (a : Int) (ha64 : a ≤ 9223372036854775807) (hp : plain n f d p r dr o s m fr t = 0) {k : Nat} (hk : 120000 < k) :
    ∃ x, bellwetherref37_Regular.f k n f d p r dr o s m fr t l ns a = some x ∧ Reg l ns (mx a 0) p x := by
  have hb := plain_facts hp
  have hm := mul_d (f := f) (d := d) (by omega) (by omega)
  have hpb : 1 ≤ p ∧ p ≤ 400 := by omega
  have ha := mx_nonneg a
  have ha2 : mx a 0 ≤ 9223372036854775807 := by
    unfold mx
    split <;> omega
  unfold bellwetherref37_Regular.f
  rw [ref_plain_at n f d p r dr o s m fr t (by omega)]
  simp only [Option.bind_some]
  rw [if_pos hp, if_neg (by omega)]
  have hlate : ∀ k, 110000 < k → _ := fun k hk => late_loop n f d p r dr o s m fr t l hl ns hns h0 (by omega) 200 k (mx a 0) ha ha2 (by omega) (by omega)
  have htw : ∀ k v, 111000 < k → (∀ k, 110000 < k → bellwetherref37_Regular.l2 k l ns (mx a 0) n f d p r dr o s m fr t = some v) →
      (Twice (pu l (rd ns 0)) (mx a 0) l.length p → bellwetherref37_Regular.l1 k l ns (mx a 0) (-1) (mx a 0) n f d p r dr o s m fr t = some 13) ∧
      (¬ Twice (pu l (rd ns 0)) (mx a 0) l.length p → bellwetherref37_Regular.l1 k l ns (mx a 0) (-1) (mx a 0) n f d p r dr o s m fr t = some v) := by
    intro k v hk hv
    by_cases h : mx a 0 ≤ l.length
    · exact twice_loop n f d p r dr o s m fr t l hl ns hns h0 (by omega) (mx a 0) ha v 110000 hv (l.length - (mx a 0).toNat) k (-1) (mx a 0) (by omega) (by omega) (by omega) (.inl ⟨rfl, fun s h1 h2 => by omega⟩) (by rintro ⟨s, u, g1, g2, g3, _⟩; omega)
    · obtain ⟨k, rfl⟩ : ∃ j, k = j + 1 := ⟨k - 1, by omega⟩
      simp only [bellwetherref37_Regular.l1]
      rw [if_neg (by omega)]
      refine ⟨?_, fun _ => hv k (by omega)⟩
      rintro ⟨s, u, g1, g2, g3, _⟩
      omega
  have hno : ∀ v, (∀ k, 111000 < k → bellwetherref37_Regular.l1 k l ns (mx a 0) (-1) (mx a 0) n f d p r dr o s m fr t = some v) → _ := fun v hv => node_loop n f d p r dr o s m fr t l hl ns hns h0 (mx a 0) ha v 111000 (by omega) hv 200 k (mx a 0) ha (by omega) (by omega)
  by_cases hC : Comm l ns (mx a 0)
  · by_cases hT : Twice (pu l (rd ns 0)) (mx a 0) l.length p
    · by_cases hL : Late (pu l (rd ns 0)) (mx a 0) l.length p
      · exact ⟨13, (hno 13 (fun k hk => (htw k 10 hk (fun k hk => (hlate k hk).1 hL)).1 hT)).2 hC, ⟨fun h => absurd hC h, fun _ _ => rfl, fun _ h => absurd hT h, fun _ h => absurd hT h⟩⟩
      · exact ⟨13, (hno 13 (fun k hk => (htw k 0 hk (fun k hk => (hlate k hk).2 hL)).1 hT)).2 hC, ⟨fun h => absurd hC h, fun _ _ => rfl, fun _ h => absurd hT h, fun _ h => absurd hT h⟩⟩
    · by_cases hL : Late (pu l (rd ns 0)) (mx a 0) l.length p
      · exact ⟨10, (hno 10 (fun k hk => (htw k 10 hk (fun k hk => (hlate k hk).1 hL)).2 hT)).2 hC, ⟨fun h => absurd hC h, fun _ h => absurd h hT, fun _ _ _ => rfl, fun _ _ h => absurd hL h⟩⟩
      · exact ⟨0, (hno 0 (fun k hk => (htw k 0 hk (fun k hk => (hlate k hk).2 hL)).2 hT)).2 hC, ⟨fun h => absurd hC h, fun _ h => absurd h hT, fun _ _ h => absurd h hL, fun _ _ _ => rfl⟩⟩
  · have hv : ∃ v, ∀ k, 111000 < k → bellwetherref37_Regular.l1 k l ns (mx a 0) (-1) (mx a 0) n f d p r dr o s m fr t = some v := by
      by_cases hT : Twice (pu l (rd ns 0)) (mx a 0) l.length p
      · by_cases hL : Late (pu l (rd ns 0)) (mx a 0) l.length p
        · exact ⟨13, fun k hk => (htw k 10 hk (fun k hk => (hlate k hk).1 hL)).1 hT⟩
        · exact ⟨13, fun k hk => (htw k 0 hk (fun k hk => (hlate k hk).2 hL)).1 hT⟩
      · by_cases hL : Late (pu l (rd ns 0)) (mx a 0) l.length p
        · exact ⟨10, fun k hk => (htw k 10 hk (fun k hk => (hlate k hk).1 hL)).2 hT⟩
        · exact ⟨0, fun k hk => (htw k 0 hk (fun k hk => (hlate k hk).2 hL)).2 hT⟩
    obtain ⟨v, hv⟩ := hv
    exact ⟨7, (hno v hv).1 hC, ⟨fun _ => rfl, fun h => absurd h hC, fun h => absurd h hC, fun h => absurd h hC⟩⟩
end
end Go.Proofs.Ytmdnmofcgmmfbaa.WinLib
