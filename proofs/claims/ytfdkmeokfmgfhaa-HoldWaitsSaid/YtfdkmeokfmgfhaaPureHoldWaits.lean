/- A frame that is held is taken just when it is D ticks old, and with it, and ahead of it, just what would be taken without it. -/
import Derived.Test.YtfdkmeokfmgfhaaSHoldWaits
import Derived.Test.YtfdkmeokfmgfhaaHoldLib3
import Derived.Test.YtfdkmeokfmgfhaaXx11
set_option linter.unusedVariables false
set_option linter.unusedSimpArgs false
namespace Go.Proofs.Ytfdkmeokfmgfhaa.holdWaits
open Go.RowKit Go.Proofs.Ytfdkmeokfmgfhaa.X Go.Proofs.YtfdkmeokfmgfhaaW.PrintWords Go.Proofs.Ytfdkmeokfmgfhaa.ConfLib Go.Proofs.Ytfdkmeokfmgfhaa.HoldLib
theorem known : bellwetherlaw12_known.f 2000 = some true := by decide +kernel
section
variable (n f d p r dr o s m fr : Int) (t : List Int) (ha hb : List ByteArray) (b : ByteArray)
theorem loop (K : Nat) (hK : 1000 < K) (known : bellwetherlaw12_known.f K = some true) (D N X i0 : Nat) (hd : d = (D : Int)) (hn : n = (N : Int)) (hX : X < N) (hi0 : i0 < D) (hp : plain n f d p r dr o s m fr t = 0)
    (he : ∀ x j, x < N → j < D → E ha D x j = if x = X ∧ j = i0 then b else E hb D x j) (hz : (E hb D X i0).toList = ([] : List UInt8)) (q : Nat) : ∀ (i k : Nat) (la lb : List ByteArray), i + q = i0 + 1 → q < k → Sh ha D N i la → Sh hb D N i lb →
    bellwetherlaw12_HoldWaits.l0 K n f d p r dr o s m fr t (X : Int) b k la lb ((D : Int) - (i0 : Int) + (i : Int)) = some true := by
  have hb' := plain_facts hp
  have hD : 1 ≤ D := by omega
  induction q with
  | zero =>
    intro i k la lb hi hk h1 h2
    obtain ⟨k, rfl⟩ : ∃ j, k = j + 1 := ⟨k - 1, by omega⟩
    have hl : la = lb := sh_ext hD h1 h2 (fun x j hx hj hij => by rw [he x j hx hj, if_neg (by omega)])
    have h3 : lb.length ≤ 1000 := by
      have hm := nd_facts (n := n) (d := d) (by omega) (by omega)
      rw [hd, hn, ← Int.natCast_mul] at hm
      rw [h2.1]
      omega
    subst hl
    simp only [bellwetherlaw12_HoldWaits.l0]
    rw [if_neg (by omega), same_at la h3 (by omega)]
    simp only [Option.bind_some, if_true]
    exact known
  | succ q ih =>
    intro i k la lb hi hk h1 h2
    obtain ⟨k, rfl⟩ : ∃ j, k = j + 1 := ⟨k - 1, by omega⟩
    have hT : ∀ (h l : List ByteArray), Sh h D N i l → take n f d p r dr o s m fr t l = (X6 l (D : Int) N, X7 l (D : Int) N) := by
      intro h l hs
      have hF : F n f d p r dr o s m fr t l = true := (F_iff _ _ _ _ _ _ _ _ _ _ _ _).2 ⟨hp, by rw [hs.1, hn, hd, Int.natCast_mul]⟩
      unfold take
      rw [if_pos hF, hd, hn, Int.toNat_natCast]
    have ih' := ih (i + 1) k (X7 la (D : Int) N) (X7 lb (D : Int) N) (by omega) (by omega) (sh_succ hD h1) (sh_succ hD h2)
    simp only [bellwetherlaw12_HoldWaits.l0]
    rw [if_pos (by omega), take_at n f d p r dr o s m fr t la (by omega), take_at n f d p r dr o s m fr t lb (by omega), hT ha la h1, hT hb lb h2]
    simp only [Option.bind_some]
    rw [if_pos, show ((D : Int) - (i0 : Int) + (i : Int) + 1) = (D : Int) - (i0 : Int) + ((i + 1 : Nat) : Int) by omega]
    · exact ih'
    · refine ⟨by rw [X6_len, hn], by rw [X6_len, hn], by omega, by omega, by omega, ?_⟩
      intro y hy0 hy1
      obtain ⟨Y, rfl⟩ := Int.eq_ofNat_of_zero_le hy0
      have hY : Y < N := by omega
      have hiD : i < D := by omega
      rw [sh_row h1 hiD hY, sh_row h2 hiD hY, he Y i hY hiD]
      by_cases c : ((Y : Int) = (X : Int) ∧ (D : Int) - (i0 : Int) + (i : Int) = d)
      · obtain ⟨c1, c2⟩ := c
        obtain rfl : Y = X := by omega
        obtain rfl : i = i0 := by omega
        rw [if_pos ⟨c1, c2⟩, if_pos ⟨rfl, rfl⟩]
        exact ⟨rfl, hz⟩
      · rw [if_neg c, if_neg (by omega)]
end
theorem pure : Pure := by
  rintro ⟨n, f, d, p, r, dr, o, s, m, fr, t⟩ l ⟨x, a, b⟩ _ _ _
  refine ⟨2000, ?_⟩
  unfold bellwetherlaw12_HoldWaits.f
  by_cases hl : (l.length : Int) > 100
  · rw [if_pos hl]
    exact known
  rw [if_neg hl, ref_plain_at n f d p r dr o s m fr t (by decide), put_at n f d p r dr o s m fr t l x a b (by decide)]
  simp only [Option.bind_some]
  by_cases hp : plain n f d p r dr o s m fr t = 0
  · rw [if_pos hp]
    by_cases hw : why n f d p r dr o s m fr t l x a b = 0
    · obtain ⟨_, hlen, hx0, hx1, ha1, had, _, _, hz⟩ := why_zero n f d p r dr o s m fr t l hw
      have hb := plain_facts hp
      obtain ⟨D, hD⟩ := Int.eq_ofNat_of_zero_le (show 0 ≤ d by omega)
      obtain ⟨N, hN⟩ := Int.eq_ofNat_of_zero_le (show 0 ≤ n by omega)
      obtain ⟨X, rfl⟩ := Int.eq_ofNat_of_zero_le hx0
      obtain ⟨i0, hi0⟩ := Int.eq_ofNat_of_zero_le (show 0 ≤ d - a by omega)
      have hlD : l.length = N * D := by
        rw [hN, hD, ← Int.natCast_mul] at hlen
        exact Int.ofNat_inj.1 hlen
      have e1 : ((X : Int) * d + (d - a)).toNat = X * D + i0 := by
        rw [hi0, hD, ← Int.natCast_mul, ← Int.natCast_add, Int.toNat_natCast]
      have e2 : put n f d p r dr o s m fr t l (X : Int) a b = (l.set (X * D + i0) b, 0) := by
        unfold put
        rw [if_pos hw, e1]
      rw [e2, if_pos rfl, if_pos ⟨ha1, had, by omega⟩]
      have e3 : (E l D X i0).toList = ([] : List UInt8) := by
        rw [hi0, hD, rd_E] at hz
        exact hz
      have h := loop n f d p r dr o s m fr t (l.set (X * D + i0) b) l b 2000 (by decide) known D N X i0 hD hN (by omega) (by omega) hp (fun y j hy hj => E_set l D N X i0 y j b hlD (by omega) (by omega) hj) e3 (i0 + 1) 0 6 (l.set (X * D + i0) b) l (by omega) (by omega) (sh_zero (by rw [List.length_set, hlD])) (sh_zero hlD)
      rw [show (D : Int) - (i0 : Int) + ((0 : Nat) : Int) = a by omega] at h
      exact h
    · have e2 : put n f d p r dr o s m fr t l x a b = ([], why n f d p r dr o s m fr t l x a b) := by
        unfold put
        rw [if_neg hw]
      rw [e2, if_neg hw]
      exact known
  · rw [if_neg hp]
    exact known
end Go.Proofs.Ytfdkmeokfmgfhaa.holdWaits
