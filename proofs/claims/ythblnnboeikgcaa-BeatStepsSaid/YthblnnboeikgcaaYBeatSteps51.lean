import Derived.Test.YthblnnboeikgcaaYBeatSteps49
import Derived.Test.YthblnnboeikgcaaYBeatSteps50
section
namespace Go.Proofs.Ythblnnboeikgcaa.beatSteps
open Go.RowKit Go.Proofs.Ythblnnboeikgcaa.B Go.Proofs.YthblnnboeikgcaaW.PrintWords Go.Proofs.YthblnnboeikgcaaW.PrintLast Go.Proofs.YthblnnboeikgcaaW.PrintMore
set_option linter.unusedVariables false
def W3 (x : Int) : Prop := (Lit.int .i64 x).wf = true
theorem op3 : Opens Try.prog 3 (Kd.int .i64) W3 := Opens.int Try.underlying3
def W22 (x : List Int) : Prop := x.length * 8 ≤ 140737488351232 ∧ ∀ y ∈ x, W3 y
theorem op22 : Opens Try.prog 22 (Kd.slice 3 (Kd.int .i64)) W22 := Opens.slice Try.underlying22 (by kernel_rfl) (by kernel_rfl) op3
def W24 (x : S24) : Prop := W3 x.f0 ∧ W3 x.f1 ∧ W3 x.f2 ∧ W3 x.f3 ∧ W3 x.f4 ∧ W3 x.f5 ∧ W3 x.f6 ∧ W3 x.f7 ∧ W3 x.f8 ∧ W3 x.f9 ∧ W22 x.f10
theorem op24 : Opens Try.prog 24 k24 W24 := Opens.iso (fun x : S24 => (x.f0, x.f1, x.f2, x.f3, x.f4, x.f5, x.f6, x.f7, x.f8, x.f9, x.f10)) (fun p => ⟨p.1, p.2.1, p.2.2.1, p.2.2.2.1, p.2.2.2.2.1, p.2.2.2.2.2.1, p.2.2.2.2.2.2.1, p.2.2.2.2.2.2.2.1, p.2.2.2.2.2.2.2.2.1, p.2.2.2.2.2.2.2.2.2.1, p.2.2.2.2.2.2.2.2.2.2⟩) (fun _ => rfl) (Opens.struct (tot := 11) Try.underlying24 (by kernel_rfl) (OpensF.cons (s := 1) rfl (by kernel_rfl) op3 (OpensF.cons (s := 1) rfl (by kernel_rfl) op3 (OpensF.cons (s := 1) rfl (by kernel_rfl) op3 (OpensF.cons (s := 1) rfl (by kernel_rfl) op3 (OpensF.cons (s := 1) rfl (by kernel_rfl) op3 (OpensF.cons (s := 1) rfl (by kernel_rfl) op3 (OpensF.cons (s := 1) rfl (by kernel_rfl) op3 (OpensF.cons (s := 1) rfl (by kernel_rfl) op3 (OpensF.cons (s := 1) rfl (by kernel_rfl) op3 (OpensF.cons (s := 1) rfl (by kernel_rfl) op3 (OpensF.last rfl (by kernel_rfl) op22))))))))))))
def W9 (x : ByteArray) : Prop := x.size ≤ 140737488351232
theorem op9 : Opens Try.prog 9 Kd.string W9 := Opens.string Try.underlying9
def W37 (x : List ByteArray) : Prop := x.length * 16 ≤ 140737488351232 ∧ ∀ y ∈ x, W9 y
theorem op37 : Opens Try.prog 37 (Kd.slice 9 Kd.string) W37 := Opens.slice Try.underlying37 (by kernel_rfl) (by kernel_rfl) op9
def Pure : Prop := ∀ (x0 : S24) (x1 : ByteArray) (x2 : Int) (x3 : List ByteArray), W24 x0 → W9 x1 → W3 x2 → W37 x3 → ∃ k, l18BeatSteps.f k x0.f0 x0.f1 x0.f2 x0.f3 x0.f4 x0.f5 x0.f6 x0.f7 x0.f8 x0.f9 x0.f10 x1 x2 x3 = some true
end Go.Proofs.Ythblnnboeikgcaa.beatSteps
end
section
set_option linter.unusedVariables false
set_option linter.unusedSimpArgs false
set_option linter.unusedSectionVars false
namespace Go.Proofs.Ythblnnboeikgcaa.VecLib
open Go.RowKit Go.Proofs.Ythblnnboeikgcaa.B Go.Proofs.YthblnnboeikgcaaW.PrintWords Go.Proofs.YthblnnboeikgcaaW.PrintMore Go.Proofs.Ythblnnboeikgcaa.ConfLib Go.Proofs.Ythblnnboeikgcaa.TallyLib Go.Proofs.Ythblnnboeikgcaa.KingLib
def hon (F : List Int) (k : Nat) : Bool := !F.contains (k : Int)
section
variable (n f d p r dr o s m fr : Int) (t : List Int)
variable {n f d p r dr o s m fr t} {F : List Int} {w : Nat} {now : Nat → Nat → ByteArray} {VS : Nat → Nat → List ByteArray}
end
end Go.Proofs.Ythblnnboeikgcaa.VecLib
end
section
set_option linter.unusedVariables false
set_option linter.unusedSimpArgs false
namespace Go.Proofs.Ythblnnboeikgcaa.PlanLib
open Go.RowKit Go.Proofs.Ythblnnboeikgcaa.B Go.Proofs.YthblnnboeikgcaaW.PrintWords Go.Proofs.Ythblnnboeikgcaa.ConfLib
theorem rounds_plain {n f d p r dr o s m fr : Int} {t : List Int} (hp : plain n f d p r dr o s m fr t = 0) : ConfLib.rounds n f d p r dr o s m fr t = 3 * (f + 1) := by unfold ConfLib.rounds; rw [if_pos hp]
theorem rounds_not {n f d p r dr o s m fr : Int} {t : List Int} (hp : ¬ plain n f d p r dr o s m fr t = 0) : ConfLib.rounds n f d p r dr o s m fr t = 0 := by unfold ConfLib.rounds; rw [if_neg hp]
theorem hears_loop (n f d p r dr o s m fr : Int) (t : List Int) (age : Int) (hp : plain n f d p r dr o s m fr t = 0) (q : Nat) : ∀ (x : Int) (k : Nat), 0 ≤ x → x + q = 3 * (f + 1) → (∀ y, 0 ≤ y → y < x → age ≠ (y + 1) * d) → 800 + q < k → r15Hears.l0 k age x n f d p r dr o s m fr t = some (if age < d then -1 else ex d (3 * (f + 1)) (age - d)) := by
  have hb := plain_facts hp
  have hd : d = 1 ∨ d = 2 ∨ d = 3 ∨ d = 4 := by omega
  induction q with
  | zero =>
    intro x k h0 hq hy hk
    obtain ⟨k, rfl⟩ : ∃ j, k = j + 1 := ⟨k - 1, by omega⟩
    simp only [r15Hears.l0]
    rw [ref_rounds_at n f d p r dr o s m fr t (by omega), rounds_plain hp]
    simp only [Option.bind_some]
    rw [if_neg (by omega)]
    by_cases h : age < d
    · rw [if_pos h]
    · rw [if_neg h, ex_none (by omega) (fun y h1 h2 h3 => hy y h1 (by omega) (by rcases hd with rfl | rfl | rfl | rfl <;> omega))]
  | succ q ih =>
    intro x k h0 hq hy hk
    obtain ⟨k, rfl⟩ : ∃ j, k = j + 1 := ⟨k - 1, by omega⟩
    simp only [r15Hears.l0]
    have hm := mul_small (x := x + 1) (d := d) (by omega) (by omega) (by omega)
    rw [ref_rounds_at n f d p r dr o s m fr t (by omega), rounds_plain hp]
    simp only [Option.bind_some]
    rw [if_pos (by omega), ConfLib.wrap_small (n := x + 1) (by omega) (by omega), ConfLib.wrap_small (n := (x + 1) * d) (by omega) (by omega)]
    by_cases h : age = (x + 1) * d
    · have hlt : ¬ age < d := by rcases hd with rfl | rfl | rfl | rfl <;> omega
      rw [if_pos h, if_neg hlt, ex_eq (by omega) h0 (by omega) (by rcases hd with rfl | rfl | rfl | rfl <;> omega)]
    · rw [if_neg h]
      exact ih (x + 1) k (by omega) (by omega) (fun y h1 h2 => by
        by_cases e : y = x
        · rw [e]; exact h
        · exact hy y h1 (by omega)) (by omega)
theorem ref_hears_at (n f d p r dr o s m fr : Int) (t : List Int) (age : Int) {k : Nat} (hk : 1000 < k) : r15Hears.f k n f d p r dr o s m fr t age = some (hears n f d p r dr o s m fr t age) := by
  unfold r15Hears.f hears
  by_cases hp : plain n f d p r dr o s m fr t = 0
  · have hb := plain_facts hp
    rw [if_pos hp]
    exact hears_loop n f d p r dr o s m fr t age hp (3 * (f + 1)).toNat 0 k (by omega) (by omega) (fun y h1 h2 => by omega) (by omega)
  · obtain ⟨k, rfl⟩ : ∃ j, k = j + 1 := ⟨k - 1, by omega⟩
    simp only [r15Hears.l0]
    rw [ref_rounds_at n f d p r dr o s m fr t (by omega), rounds_not hp, if_neg hp]
    rfl
theorem ref_king_at (n f d p r dr o s m fr : Int) (t : List Int) (x : Int) {k : Nat} (hk : 1000 < k) : r15King.f k n f d p r dr o s m fr t x = some (king n f d p r dr o s m fr t x) := by
  have hb := rounds_facts (n := n) (f := f) (d := d) (p := p) (r := r) (dr := dr) (o := o) (s := s) (m := m) (fr := fr) (t := t)
  unfold r15King.f king
  by_cases h0 : x < 0
  · rw [if_pos h0, if_pos (.inl h0)]
  rw [if_neg h0, ref_rounds_at n f d p r dr o s m fr t (by omega)]
  simp only [Option.bind_some]
  by_cases h1 : x ≥ ConfLib.rounds n f d p r dr o s m fr t
  · rw [if_pos h1, if_pos (.inr h1)]
  · rw [if_neg h1, if_neg (by omega), Int.tdiv_eq_ediv_of_nonneg (by omega), ConfLib.wrap_small (by omega) (by omega)]
theorem ex_range {d r t : Int} (hd : 1 ≤ d ∧ d ≤ 4) (hr : r ≤ 15) : -1 ≤ ex d r t ∧ ex d r t ≤ 14 := by
  rcases ex_cases (r := r) (t := t) hd with ⟨h, _⟩ | ⟨x, h0, h1, _, h⟩ <;> omega
theorem hears_range (n f d p r dr o s m fr : Int) (t : List Int) (age : Int) : -1 ≤ hears n f d p r dr o s m fr t age ∧ hears n f d p r dr o s m fr t age ≤ 14 := by
  unfold hears
  by_cases hp : plain n f d p r dr o s m fr t = 0
  · have hb := plain_facts hp
    rw [if_pos hp]
    by_cases h1 : age < d
    · rw [if_pos h1]
      omega
    · rw [if_neg h1]
      exact ex_range (by omega) (by omega)
  · rw [if_neg hp]
    omega
theorem hears_small {n f d p r dr o s m fr : Int} {t : List Int} {age : Int} (hp : plain n f d p r dr o s m fr t = 0) (h : 0 ≤ hears n f d p r dr o s m fr t age) : hears n f d p r dr o s m fr t age < 3 * (f + 1) := by
  have hb := plain_facts hp
  unfold hears at h ⊢
  rw [if_pos hp] at h ⊢
  by_cases h1 : age < d
  · rw [if_pos h1] at h
    omega
  · rw [if_neg h1] at h ⊢
    rcases ex_cases (d := d) (r := 3 * (f + 1)) (t := age - d) (by omega) with ⟨h2, _⟩ | ⟨x, h0, h2, _, h3⟩ <;> omega
def sat (a m : Int) : Int := if a < 0 ∨ m < 0 then 0 else if a ≥ m then m else a + 1
theorem sat_at (a m : Int) (hm : m ≤ 1000000) {k : Nat} (hk : 0 < k) : num_Sat.f k a m = some (sat a m) := by
  obtain ⟨k, rfl⟩ : ∃ j, k = j + 1 := ⟨k - 1, by omega⟩
  unfold num_Sat.f sat
  by_cases h1 : a < 0
  · rw [if_pos h1, if_pos (.inl h1)]
    simp only [num_Sat.j0]
    rw [if_pos (decide_eq_true h1)]
  · rw [if_neg h1]
    simp only [num_Sat.j0]
    by_cases h2 : m < 0
    · rw [if_pos (decide_eq_true h2), if_pos (.inr h2)]
    · rw [if_neg (by simpa using h2), if_neg (show ¬ (a < 0 ∨ m < 0) by omega)]
      by_cases h3 : a ≥ m
      · rw [if_pos h3, if_pos h3]
      · rw [if_neg h3, if_neg h3, ConfLib.wrap_small (by omega) (by omega)]
theorem ref_sat_at (a m : Int) (hm : m ≤ 1000000) {k : Nat} (hk : 10 < k) : r01Sat.f k a m = some (sat a m) := by
  obtain ⟨k, rfl⟩ : ∃ j, k = j + 1 := ⟨k - 1, by omega⟩
  unfold r01Sat.f sat
  by_cases h1 : a < 0
  · rw [if_pos h1, if_pos (.inl h1)]
    simp only [r01Sat.j0]
    rfl
  · rw [if_neg h1]
    simp only [r01Sat.j0]
    by_cases h2 : m < 0
    · rw [if_pos (decide_eq_true h2), if_pos (.inr h2)]
    · rw [if_neg (by simpa using h2), if_neg (show ¬ (a < 0 ∨ m < 0) by omega)]
      by_cases h3 : a ≥ m
      · rw [if_pos h3, if_pos h3]
      · rw [if_neg h3, if_neg h3, ConfLib.wrap_small (by omega) (by omega)]
end Go.Proofs.Ythblnnboeikgcaa.PlanLib
end
