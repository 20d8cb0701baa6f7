/- All that is held is taken within D ticks, each once, and nothing is held then. -/
import Derived.Test.YtfdkmeokfmgfhaaSHoldEnds
import Derived.Test.YtfdkmeokfmgfhaaHoldLib3
import Derived.Test.YtfdkmeokfmgfhaaXx11
set_option linter.unusedVariables false
set_option linter.unusedSimpArgs false
namespace Go.Proofs.Ytfdkmeokfmgfhaa.holdEnds
open Go.RowKit Go.Proofs.Ytfdkmeokfmgfhaa.X Go.Proofs.YtfdkmeokfmgfhaaW.PrintWords Go.Proofs.Ytfdkmeokfmgfhaa.ConfLib Go.Proofs.Ytfdkmeokfmgfhaa.HoldLib
theorem known : bellwetherlaw12_known.f 2000 = some true := by decide +kernel
section
variable (n f d p r dr o s m fr : Int) (t : List Int) (l : List ByteArray)
theorem loop (K : Nat) (hK : 1000 < K) (known : bellwetherlaw12_known.f K = some true) (D N X : Nat) (hd : d = (D : Int)) (hn : n = (N : Int)) (hX : X < N) (hp : plain n f d p r dr o s m fr t = 0) (hl : l.length = N * D) (q : Nat) : ∀ (i k : Nat) (la : List ByteArray), i + q = D → q < k → Sh l D N i la → bellwetherlaw12_HoldEnds.l0 K n f d p r dr o s m fr t (X : Int) k (hold_Held.cnt l ((X : Int) * d) D - hold_Held.cnt l ((X : Int) * d) i) la (i : Int) = some true := by
  have hb := plain_facts hp
  induction q with
  | zero =>
    intro i k la hi hk hs
    obtain ⟨k, rfl⟩ : ∃ j, k = j + 1 := ⟨k - 1, by omega⟩
    obtain rfl : i = D := by omega
    have he := sh_end (by omega) hs
    have h2 : empty n f d p r dr o s m fr t = la := by
      unfold empty
      rw [if_pos hp, he, hd, hn, nat_mul]
    have h3 : la.length ≤ 1000 := by
      have hm := nd_facts (n := n) (d := d) (by omega) (by omega)
      rw [hd, hn, ← Int.natCast_mul] at hm
      rw [hs.1]
      omega
    simp only [bellwetherlaw12_HoldEnds.l0]
    rw [if_neg (by omega), if_pos (by omega), ref_empty_at n f d p r dr o s m fr t (by omega), h2]
    simp only [Option.bind_some]
    rw [same_at la h3 (by omega)]
    simp only [Option.bind_some, if_true]
    exact known
  | succ q ih =>
    intro i k la hi hk hs
    obtain ⟨k, rfl⟩ : ∃ j, k = j + 1 := ⟨k - 1, by omega⟩
    have hF : F n f d p r dr o s m fr t la = true := (F_iff _ _ _ _ _ _ _ _ _ _ _ _).2 ⟨hp, by rw [hs.1, hn, hd, Int.natCast_mul]⟩
    have hT : take n f d p r dr o s m fr t la = (X6 la (D : Int) N, X7 la (D : Int) N) := by
      unfold take
      rw [if_pos hF, hd, hn, Int.toNat_natCast]
    have h6 := X6_len la (D : Int) N
    have hr := sh_row hs (by omega) hX
    have c1 := hold_Held.cnt_le l ((X : Int) * d) D
    have c2 := hold_Held.cnt_le l ((X : Int) * d) i
    have ih' := ih (i + 1) k (X7 la (D : Int) N) (by omega) (by omega) (sh_succ (by omega) hs)
    rw [hold_Held.cnt] at ih'
    have hE : rdOf ByteArray.empty l ((X : Int) * d + (i : Int)) = E l D X i := by rw [hd]; exact rd_E l D X i
    rw [hE] at ih'
    simp only [bellwetherlaw12_HoldEnds.l0]
    rw [if_pos (by omega), take_at n f d p r dr o s m fr t la (by omega), hT]
    simp only [Option.bind_some]
    rw [if_pos (by rw [h6, hn]), hr, show ((i : Int) + 1) = ((i + 1 : Nat) : Int) by omega]
    by_cases h0 : (E l D X i).toList = []
    · rw [if_pos h0]
      rw [if_pos h0] at ih'
      exact ih'
    · rw [if_neg h0]
      rw [if_neg h0] at ih'
      rw [ConfLib.wrap_small (by omega) (by omega), show hold_Held.cnt l ((X : Int) * d) D - hold_Held.cnt l ((X : Int) * d) i - 1 = hold_Held.cnt l ((X : Int) * d) D - (hold_Held.cnt l ((X : Int) * d) i + 1) by omega]
      exact ih'
end
theorem pure : Pure := by
  rintro ⟨n, f, d, p, r, dr, o, s, m, fr, t⟩ l x _ _ _
  refine ⟨2000, ?_⟩
  unfold bellwetherlaw12_HoldEnds.f
  by_cases hl : (l.length : Int) > 100
  · rw [if_pos hl]
    exact known
  rw [if_neg hl, ref_fits_at n f d p r dr o s m fr t l (by decide)]
  simp only [Option.bind_some]
  by_cases hF : F n f d p r dr o s m fr t l = true
  · rw [if_pos hF]
    by_cases hx0 : x < 0
    · rw [if_pos hx0]
      exact known
    rw [if_neg hx0]
    by_cases hx1 : x ≥ n
    · rw [if_pos hx1]
      exact known
    obtain ⟨hp, hlen⟩ := (F_iff _ _ _ _ _ _ _ _ _ _ _ _).1 hF
    have hb := plain_facts hp
    obtain ⟨D, hD⟩ := Int.eq_ofNat_of_zero_le (show 0 ≤ d by omega)
    obtain ⟨N, hN⟩ := Int.eq_ofNat_of_zero_le (show 0 ≤ n by omega)
    obtain ⟨X, rfl⟩ := Int.eq_ofNat_of_zero_le (show 0 ≤ x by omega)
    have hh : held n f d p r dr o s m fr t l (X : Int) = hold_Held.cnt l ((X : Int) * d) D - hold_Held.cnt l ((X : Int) * d) 0 := by
      unfold held
      rw [if_pos ⟨hF, by omega, by omega⟩, show d.toNat = D by omega, hold_Held.cnt, Int.sub_zero]
    have hlD : l.length = N * D := by
      rw [hN, hD, ← Int.natCast_mul] at hlen
      exact Int.ofNat_inj.1 hlen
    rw [if_neg hx1, if_pos (by omega), held_at n f d p r dr o s m fr t l _ (by decide), hh]
    simp only [Option.bind_some]
    exact loop n f d p r dr o s m fr t l 2000 (by decide) known D N X hD hN (by omega) hp hlD D 0 6 l (by omega) (by omega) (sh_zero hlD)
  · rw [if_neg hF]
    exact known
end Go.Proofs.Ytfdkmeokfmgfhaa.holdEnds
