import Derived.Test.YthblnnboeikgcaaYBeatSettles51
set_option linter.unusedVariables false
set_option linter.unusedSimpArgs false
set_option linter.unusedSectionVars false
namespace Go.Proofs.Ythblnnboeikgcaa.BeatLib
open Go.RowKit Go.Proofs.Ythblnnboeikgcaa.B Go.Proofs.YthblnnboeikgcaaW.PrintWords Go.Proofs.YthblnnboeikgcaaW.PrintMore Go.Proofs.Ythblnnboeikgcaa.ConfLib Go.Proofs.Ythblnnboeikgcaa.TallyLib Go.Proofs.Ythblnnboeikgcaa.KingLib Go.Proofs.Ythblnnboeikgcaa.VecLib Go.Proofs.Ythblnnboeikgcaa.PlanLib Go.Proofs.Ythblnnboeikgcaa.PipeLib
section
variable {n f d p r dr o s m fr : Int} {t : List Int} (PP : List ByteArray) (SS F : List Int) (LL : List ByteArray)
theorem move_bit (VS : List ByteArray) (a : ByteArray) : (moveV n f d p r dr o s m fr t VS a).2 = 0 ∨ (moveV n f d p r dr o s m fr t VS a).2 = 1 := by
  unfold moveV
  split
  · dsimp only
    split
    · exact .inr rfl
    · exact .inl rfl
  · exact .inl rfl
theorem end_bit (q i : Nat) : endB n f d p r dr o s m fr t PP SS F LL q i = 0 ∨ endB n f d p r dr o s m fr t PP SS F LL q i = 1 := move_bit _ _
theorem next_true (hp : plain n f d p r dr o s m fr t = 0) (a g : Int) : (nextV n f d p r dr o s m fr t a g true).1 = 0 := by
  unfold nextV
  rw [if_pos hp, if_pos rfl]
  split <;> rfl
theorem next_false (hp : plain n f d p r dr o s m fr t = 0) (a g : Int) : (nextV n f d p r dr o s m fr t a g false).1 = sat a p := by
  unfold nextV
  rw [if_pos hp, if_neg Bool.false_ne_true]
  split <;> rfl
theorem since_range (hp : plain n f d p r dr o s m fr t = 0) (q i : Nat) : 0 ≤ sinceB n f d p r dr o s m fr t PP SS F LL (q + 1) i ∧ sinceB n f d p r dr o s m fr t PP SS F LL (q + 1) i ≤ p := by
  have hf := plain_facts hp
  have hm := mul_d (f := f) (d := d) (by omega) (by omega)
  rw [since_next]
  cases (endB n f d p r dr o s m fr t PP SS F LL q i == 1) with
  | true => rw [next_true hp]; omega
  | false =>
    rw [next_false hp]
    unfold sat
    repeat' split
    all_goals omega
theorem honest_one (hp : plain n f d p r dr o s m fr t = 0) (hf : KingMath.bad n.toNat (hon F) ≤ f.toNat) : ∃ h, h < n.toNat ∧ hon F h = true := by
  have hb := plain_facts hp
  obtain ⟨h, h1, h2⟩ := KingMath.some_king hf (by omega)
  exact ⟨h, by omega, h2⟩
theorem since_one (hp : plain n f d p r dr o s m fr t = 0) (hf : KingMath.bad n.toNat (hon F) ≤ f.toNat) : ∃ T0 : Nat, ConfLib.length n f d p r dr o s m fr t ≤ (T0 : Int) ∧ (T0 : Int) ≤ ConfLib.length n f d p r dr o s m fr t + p ∧ ∃ a : Int, ∀ i, i < n.toNat → hon F i = true → sinceB n f d p r dr o s m fr t PP SS F LL T0 i = a := by
  have hb := plain_facts hp
  have hm := mul_d (f := f) (d := d) (by omega) (by omega)
  have h3 := len_pos n f d p r dr o s m fr t hp
  obtain ⟨h0, h1, h2⟩ := honest_one F hp hf
  obtain ⟨l, hl⟩ : ∃ l : Nat, ConfLib.length n f d p r dr o s m fr t = ((l + 1 : Nat) : Int) := ⟨(ConfLib.length n f d p r dr o s m fr t).toNat - 1, by omega⟩
  have agree : ∀ k, ∀ i, i < n.toNat → hon F i = true → endB n f d p r dr o s m fr t PP SS F LL (l + 1 + k) i = endB n f d p r dr o s m fr t PP SS F LL (l + 1 + k) h0 := by
    intro k i hi hh
    obtain ⟨w, hw⟩ := ends_agree PP SS F LL hp hf (l + 1 + k) (by omega)
    rw [hw i hi hh, hw h0 h1 h2]
  by_cases hE : ∃ k, k < p.toNat ∧ endB n f d p r dr o s m fr t PP SS F LL (l + 1 + k) h0 = 1
  · obtain ⟨k, hk, he⟩ := hE
    refine ⟨l + 1 + k + 1, by omega, by omega, 0, fun i hi hh => ?_⟩
    rw [since_next, agree k i hi hh, he]
    exact next_true hp _ _
  · have no : ∀ i, i < n.toNat → hon F i = true → ∀ k : Nat, k < p.toNat → endB n f d p r dr o s m fr t PP SS F LL (l + 1 + k) i ≠ 1 := fun i hi hh k hk e => hE ⟨k, hk, by rw [← agree k i hi hh]; exact e⟩
    refine ⟨l + 1 + p.toNat, by omega, by omega, p, fun i hi hh => ?_⟩
    have grow : ∀ k : Nat, k ≤ p.toNat → (k : Int) ≤ sinceB n f d p r dr o s m fr t PP SS F LL (l + 1 + k) i := by
      intro k
      induction k with
      | zero => intro _; exact (since_range PP SS F LL hp l i).1
      | succ k ih =>
        intro hk
        have g := ih (by omega)
        show ((k + 1 : Nat) : Int) ≤ sinceB n f d p r dr o s m fr t PP SS F LL (l + 1 + k + 1) i
        rw [since_next, show (endB n f d p r dr o s m fr t PP SS F LL (l + 1 + k) i == 1) = false from beq_eq_false_iff_ne.2 (no i hi hh k (by omega)), next_false hp]
        unfold sat
        repeat' split
        all_goals omega
    have g := grow p.toNat (Nat.le_refl _)
    have g2 := (since_range PP SS F LL hp (l + p.toNat) i).2
    rw [show l + p.toNat + 1 = l + 1 + p.toNat by omega] at g2
    omega
theorem all_settle (hp : plain n f d p r dr o s m fr t = 0) (hf : KingMath.bad n.toNat (hon F) ≤ f.toNat) : ∃ Z : Nat, ConfLib.length n f d p r dr o s m fr t ≤ (Z : Int) ∧ (Z : Int) ≤ 3 * ConfLib.length n f d p r dr o s m fr t + 2 * p ∧ ∀ q, Z ≤ q → ∀ i, i < n.toNat → hon F i = true → (endB n f d p r dr o s m fr t PP SS F LL q i = 1 ↔ (q - Z) % p.toNat = 0) := by
  have hb := plain_facts hp
  have h3 := len_pos n f d p r dr o s m fr t hp
  obtain ⟨h0, h1, h2⟩ := honest_one F hp hf
  obtain ⟨T0, t1, t2, a, ha⟩ := since_one PP SS F LL hp hf
  have agree : ∀ q : Nat, ConfLib.length n f d p r dr o s m fr t ≤ (q : Int) → ∀ i, i < n.toNat → hon F i = true → endB n f d p r dr o s m fr t PP SS F LL q i = endB n f d p r dr o s m fr t PP SS F LL q h0 := by
    intro q hq i hi hh
    obtain ⟨w, hw⟩ := ends_agree PP SS F LL hp hf q hq
    rw [hw i hi hh, hw h0 h1 h2]
  have one : ∀ u : Nat, ∀ i, i < n.toNat → hon F i = true → sinceB n f d p r dr o s m fr t PP SS F LL (T0 + u) i = sinceB n f d p r dr o s m fr t PP SS F LL (T0 + u) h0 := by
    intro u
    induction u with
    | zero => intro i hi hh; exact (ha i hi hh).trans (ha h0 h1 h2).symm
    | succ u ih =>
      intro i hi hh
      show sinceB n f d p r dr o s m fr t PP SS F LL (T0 + u + 1) i = sinceB n f d p r dr o s m fr t PP SS F LL (T0 + u + 1) h0
      rw [since_next, since_next, ih i hi hh, agree (T0 + u) (by omega) i hi hh]
  have B := beat_of n f d p r dr o s m fr t hp (fun u => endB n f d p r dr o s m fr t PP SS F LL (T0 + u) h0) (fun u => sinceB n f d p r dr o s m fr t PP SS F LL (T0 + u) h0) (fun _ => 0) (fun u => since_next n f d p r dr o s m fr t PP SS F LL (T0 + u) h0) (fun u => by
    have h := ends_keep PP SS F LL hp hf (T0 + u) (sinceB n f d p r dr o s m fr t PP SS F LL (T0 + u + 1) h0) (fun i hi hh => one (u + 1) i hi hh) h0 h1 h2
    rw [Nat.add_assoc] at h
    exact h)
  obtain ⟨L, hL, St⟩ := BeatMath.settles B
  have all := BeatMath.steady_all B St
  refine ⟨T0 + L, by omega, by omega, fun q hq i hi hh => ?_⟩
  rw [agree q (by omega) i hi hh]
  have g := all (q - T0) (by omega)
  rw [show q - T0 - L = q - (T0 + L) by omega] at g
  rw [← g]
  show _ ↔ (endB n f d p r dr o s m fr t PP SS F LL (T0 + (q - T0)) h0 == 1) = true
  rw [show T0 + (q - T0) = q by omega]
  exact beq_iff_eq.symm
end
end Go.Proofs.Ythblnnboeikgcaa.BeatLib
