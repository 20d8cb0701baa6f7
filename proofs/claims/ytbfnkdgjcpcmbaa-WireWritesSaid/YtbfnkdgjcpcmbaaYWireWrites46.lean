import Derived.Test.YtbfnkdgjcpcmbaaYWireWrites45
import Derived.Test.YtbfnkdgjcpcmbaaYWireWrites16
import Derived.Test.YtbfnkdgjcpcmbaaYWireWrites27
set_option linter.unusedVariables false
set_option linter.unusedSimpArgs false
namespace Go.Proofs.Ytbfnkdgjcpcmbaa.ConfLib
open Go.RowKit Go.Proofs.Ytbfnkdgjcpcmbaa.X Go.Proofs.YtbfnkdgjcpcmbaaW.PrintWords Go.Proofs.YtbfnkdgjcpcmbaaW.PrintMore
def rounds (n f d p r dr o s m fr : Int) (t : List Int) : Int := if plain n f d p r dr o s m fr t = 0 then 3 * (f + 1) else 0
def length (n f d p r dr o s m fr : Int) (t : List Int) : Int := if plain n f d p r dr o s m fr t = 0 then 3 * (f + 1) * d else 0
def bits (n f d p r dr o s m fr : Int) (t : List Int) : Int := if plain n f d p r dr o s m fr t = 0 then 8 + n else 0
theorem plain_facts {n f d p r dr o s m fr : Int} {t : List Int} (h : plain n f d p r dr o s m fr t = 0) : 4 ≤ n ∧ n ≤ 13 ∧ 0 ≤ f ∧ f ≤ 4 ∧ 3 * f < n ∧ 1 ≤ d ∧ d ≤ 4 ∧ 6 * (f + 1) * d + 1 ≤ p ∧ p ≤ 400 := by
  obtain ⟨h1, h2, h3, h4⟩ := plain_zero.1 h
  unfold nodesOk at h1
  unfold delayOk at h2
  unfold numbersOk at h3
  exact ⟨h1.1, h1.2.1, h1.2.2.1, h1.2.2.2.1, h1.2.2.2.2, h2.1, h2.2, h3.1, h3.2.1⟩
theorem w3 {f : Int} (hf : 0 ≤ f ∧ f ≤ 4) : wrap64 (3 * wrap64 (f + 1)) = 3 * (f + 1) := by
  rw [wrap_small (n := f + 1) (by omega) (by omega), wrap_small (by omega) (by omega)]
theorem rounds_at (n f d p r dr o s m fr : Int) (t : List Int) {k : Nat} (hk : 10 < k) : conf_Rounds.f k n f d p r dr o s m fr t = some (rounds n f d p r dr o s m fr t) := by
  unfold conf_Rounds.f rounds
  rw [plain_at n f d p r dr o s m fr t hk]
  simp only [Option.bind_some]
  by_cases h : plain n f d p r dr o s m fr t = 0
  · have hb := plain_facts h
    rw [if_pos h, if_pos h, w3 (by omega)]
  · rw [if_neg h, if_neg h]
theorem ref_rounds_at (n f d p r dr o s m fr : Int) (t : List Int) {k : Nat} (hk : 700 < k) : r03Rounds.f k n f d p r dr o s m fr t = some (rounds n f d p r dr o s m fr t) := by
  unfold r03Rounds.f rounds
  rw [ref_plain_at n f d p r dr o s m fr t hk]
  simp only [Option.bind_some]
  by_cases h : plain n f d p r dr o s m fr t = 0
  · have hb := plain_facts h
    rw [if_pos h, if_pos h, w3 (by omega)]
  · rw [if_neg h, if_neg h]
theorem bits_at (n f d p r dr o s m fr : Int) (t : List Int) {k : Nat} (hk : 10 < k) : conf_Bits.f k n f d p r dr o s m fr t = some (bits n f d p r dr o s m fr t) := by
  unfold conf_Bits.f bits
  rw [plain_at n f d p r dr o s m fr t hk]
  simp only [Option.bind_some]
  by_cases h : plain n f d p r dr o s m fr t = 0
  · have hb := plain_facts h
    rw [if_pos h, if_pos h, wrap_small (by omega) (by omega)]
  · rw [if_neg h, if_neg h]
theorem ref_bits_at (n f d p r dr o s m fr : Int) (t : List Int) {k : Nat} (hk : 700 < k) : r03Bits.f k n f d p r dr o s m fr t = some (bits n f d p r dr o s m fr t) := by
  unfold r03Bits.f bits
  rw [ref_plain_at n f d p r dr o s m fr t hk]
  simp only [Option.bind_some]
  by_cases h : plain n f d p r dr o s m fr t = 0
  · have hb := plain_facts h
    rw [if_pos h, if_pos h, wrap_small (by omega) (by omega)]
  · rw [if_neg h, if_neg h]
end Go.Proofs.Ytbfnkdgjcpcmbaa.ConfLib
