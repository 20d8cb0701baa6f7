import Derived.Test.YthblnnboeikgcaaYAgreeTells51
import Derived.Test.YthblnnboeikgcaaYAgreeTells38
import Derived.Test.YthblnnboeikgcaaYAgreeTells40
import Derived.Test.YthblnnboeikgcaaYAgreeTells11
import Derived.Test.YthblnnboeikgcaaYAgreeTells24
set_option linter.unusedVariables false
set_option linter.unusedSimpArgs false
namespace Go.Proofs.Ythblnnboeikgcaa.PlanLib
open Go.RowKit Go.Proofs.Ythblnnboeikgcaa.X Go.Proofs.YthblnnboeikgcaaW.PrintWords Go.Proofs.Ythblnnboeikgcaa.ConfLib
theorem rounds_plain {n f d p r dr o s m fr : Int} {t : List Int} (hp : plain n f d p r dr o s m fr t = 0) : ConfLib.rounds n f d p r dr o s m fr t = 3 * (f + 1) := by unfold ConfLib.rounds; rw [if_pos hp]
theorem rounds_not {n f d p r dr o s m fr : Int} {t : List Int} (hp : ¬ plain n f d p r dr o s m fr t = 0) : ConfLib.rounds n f d p r dr o s m fr t = 0 := by unfold ConfLib.rounds; rw [if_neg hp]
theorem tells_loop (n f d p r dr o s m fr : Int) (t : List Int) (age : Int) (hp : plain n f d p r dr o s m fr t = 0) (q : Nat) : ∀ (x : Int) (k : Nat), 0 ≤ x → x + q = 3 * (f + 1) → (∀ y, 0 ≤ y → y < x → age ≠ y * d) → 800 + q < k → bellwetherref15_Tells.l0 k age x n f d p r dr o s m fr t = some (ex d (3 * (f + 1)) age) := by
  have hb := plain_facts hp
  induction q with
  | zero =>
    intro x k h0 hq hy hk
    obtain ⟨k, rfl⟩ : ∃ j, k = j + 1 := ⟨k - 1, by omega⟩
    simp only [bellwetherref15_Tells.l0]
    rw [ref_rounds_at n f d p r dr o s m fr t (by omega), rounds_plain hp]
    simp only [Option.bind_some]
    rw [if_neg (by omega), ex_none (by omega) (fun y h1 h2 => hy y h1 (by omega))]
  | succ q ih =>
    intro x k h0 hq hy hk
    obtain ⟨k, rfl⟩ : ∃ j, k = j + 1 := ⟨k - 1, by omega⟩
    simp only [bellwetherref15_Tells.l0]
    have hm := mul_small (x := x) (d := d) (by omega) h0 (by omega)
    rw [ref_rounds_at n f d p r dr o s m fr t (by omega), rounds_plain hp]
    simp only [Option.bind_some]
    rw [if_pos (by omega), ConfLib.wrap_small (n := x * d) (by omega) (by omega), ConfLib.wrap_small (n := x + 1) (by omega) (by omega)]
    by_cases h : age = x * d
    · rw [if_pos h, ex_eq (by omega) h0 (by omega) h]
    · rw [if_neg h]
      exact ih (x + 1) k (by omega) (by omega) (fun y h1 h2 => by
        by_cases e : y = x
        · rw [e]; exact h
        · exact hy y h1 (by omega)) (by omega)
theorem ref_tells_at (n f d p r dr o s m fr : Int) (t : List Int) (age : Int) {k : Nat} (hk : 1000 < k) : bellwetherref15_Tells.f k n f d p r dr o s m fr t age = some (tells n f d p r dr o s m fr t age) := by
  unfold bellwetherref15_Tells.f tells
  by_cases hp : plain n f d p r dr o s m fr t = 0
  · have hb := plain_facts hp
    rw [if_pos hp]
    exact tells_loop n f d p r dr o s m fr t age hp (3 * (f + 1)).toNat 0 k (by omega) (by omega) (fun y h1 h2 => by omega) (by omega)
  · obtain ⟨k, rfl⟩ : ∃ j, k = j + 1 := ⟨k - 1, by omega⟩
    simp only [bellwetherref15_Tells.l0]
    rw [ref_rounds_at n f d p r dr o s m fr t (by omega), rounds_not hp, if_neg hp]
    rfl
theorem ex_range {d r t : Int} (hd : 1 ≤ d ∧ d ≤ 4) (hr : r ≤ 15) : -1 ≤ ex d r t ∧ ex d r t ≤ 14 := by
  rcases ex_cases (r := r) (t := t) hd with ⟨h, _⟩ | ⟨x, h0, h1, _, h⟩ <;> omega
theorem tells_range (n f d p r dr o s m fr : Int) (t : List Int) (age : Int) : -1 ≤ tells n f d p r dr o s m fr t age ∧ tells n f d p r dr o s m fr t age ≤ 14 := by
  unfold tells
  by_cases hp : plain n f d p r dr o s m fr t = 0
  · have hb := plain_facts hp
    rw [if_pos hp]
    exact ex_range (by omega) (by omega)
  · rw [if_neg hp]
    omega
end Go.Proofs.Ythblnnboeikgcaa.PlanLib
