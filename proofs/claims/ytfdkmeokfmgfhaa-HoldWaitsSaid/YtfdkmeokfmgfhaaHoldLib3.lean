/- What is held, tick by tick: each node's places move on by one. -/
import Derived.Test.YtfdkmeokfmgfhaaHoldLib2
set_option linter.unusedVariables false
set_option linter.unusedSimpArgs false
namespace Go.Proofs.Ytfdkmeokfmgfhaa.HoldLib
open Go.RowKit Go.Proofs.Ytfdkmeokfmgfhaa.X Go.Proofs.YtfdkmeokfmgfhaaW.PrintWords Go.Proofs.Ytfdkmeokfmgfhaa.ConfLib
def E (l : List ByteArray) (D x j : Nat) : ByteArray := l.getD (x * D + j) ByteArray.empty
theorem nat_mul (J D : Nat) : ((J : Int) * (D : Int)).toNat = J * D := by rw [← Int.natCast_mul, Int.toNat_natCast]
theorem rd_E (l : List ByteArray) (D x j : Nat) : rdOf ByteArray.empty l ((x : Int) * (D : Int) + (j : Int)) = E l D x j := by
  unfold rdOf E
  rw [show ((x : Int) * (D : Int) + (j : Int)).toNat = x * D + j by rw [← Int.natCast_mul, ← Int.natCast_add, Int.toNat_natCast]]
theorem rd_E0 (l : List ByteArray) (D x : Nat) : rdOf ByteArray.empty l ((x : Int) * (D : Int)) = E l D x 0 := by
  have := rd_E l D x 0
  simpa using this
theorem row_lt {x J D j : Nat} (hx : x < J) (hj : j < D) : x * D + j < J * D := by
  have h := Nat.mul_le_mul_right D (show x + 1 ≤ J from hx)
  rw [Nat.succ_mul] at h
  omega
theorem X6_get (l : List ByteArray) (D : Nat) : ∀ J x, x < J → rdOf ByteArray.empty (X6 l (D : Int) J) (x : Int) = E l D x 0
  | 0, x, h => by omega
  | J + 1, x, h => by
    have hl := X6_len l (D : Int) J
    unfold rdOf
    rw [X6, Int.toNat_natCast, List.getD_eq_getElem?_getD]
    by_cases hx : x < J
    · rw [List.getElem?_append_left (by omega), ← List.getD_eq_getElem?_getD]
      have ih := X6_get l D J x hx
      unfold rdOf at ih
      rwa [Int.toNat_natCast] at ih
    · obtain rfl : x = J := by omega
      rw [List.getElem?_append_right (by omega), hl, Nat.sub_self]
      exact rd_E0 l D x
theorem X7_get (l : List ByteArray) (D N : Nat) (hD : 1 ≤ D) (hl : N * D = l.length) : ∀ J, J ≤ N → ∀ x j, x < J → j < D → E (X7 l (D : Int) J) D x j = if j + 1 < D then E l D x (j + 1) else (⟨#[]⟩ : ByteArray)
  | 0, _, x, j, h, _ => by omega
  | J + 1, hJ, x, j, h, hj => by
    have hn : (N : Int) * (D : Int) = l.length := by rw [← Int.natCast_mul, hl]
    have h7 := X7_len l (d := (D : Int)) (n := (N : Int)) (by omega) hn J (by omega)
    rw [nat_mul] at h7
    have hs := seg_len l (d := (D : Int)) (n := (N : Int)) (by omega) hn J (by omega)
    rw [Int.toNat_natCast] at hs
    unfold E
    rw [X7, List.getD_eq_getElem?_getD, List.append_assoc]
    by_cases hx : x < J
    · have hlt := row_lt hx hj
      rw [List.getElem?_append_left (by omega), ← List.getD_eq_getElem?_getD]
      exact X7_get l D N hD hl J (by omega) x j hx hj
    · obtain rfl : x = J := by omega
      rw [List.getElem?_append_right (by omega), h7, show x * D + j - x * D = j by omega]
      by_cases hj1 : j + 1 < D
      · rw [if_pos hj1, List.getElem?_append_left (by omega)]
        unfold seg
        rw [nat_mul, Int.toNat_natCast, List.getElem?_take, if_pos (by omega), List.getElem?_drop, List.getD_eq_getElem?_getD, show x * D + 1 + j = x * D + (j + 1) by omega]
      · rw [if_neg hj1, List.getElem?_append_right (by omega), hs, show j - (D - 1) = 0 by omega]
        rfl
/-- So many ticks later. -/
def Sh (h : List ByteArray) (D N i : Nat) (la : List ByteArray) : Prop := la.length = N * D ∧ ∀ x j, x < N → j < D → E la D x j = if j + i < D then E h D x (j + i) else (⟨#[]⟩ : ByteArray)
theorem sh_zero {h : List ByteArray} {D N : Nat} (hl : h.length = N * D) : Sh h D N 0 h := ⟨hl, fun x j hx hj => by rw [if_pos (by omega)]; rfl⟩
theorem sh_succ {h la : List ByteArray} {D N i : Nat} (hD : 1 ≤ D) (hs : Sh h D N i la) : Sh h D N (i + 1) (X7 la (D : Int) N) := by
  have hn : (N : Int) * (D : Int) = la.length := by rw [← Int.natCast_mul, hs.1]
  refine ⟨?_, fun x j hx hj => ?_⟩
  · have h7 := X7_len la (d := (D : Int)) (n := (N : Int)) (by omega) hn N (by omega)
    rw [nat_mul] at h7
    exact h7
  · rw [X7_get la D N hD hs.1.symm N (Nat.le_refl _) x j hx hj]
    by_cases h1 : j + 1 < D
    · rw [if_pos h1, hs.2 x (j + 1) hx h1, show j + 1 + i = j + (i + 1) by omega]
    · rw [if_neg h1, if_neg (by omega)]
theorem sh_row {h la : List ByteArray} {D N i : Nat} (hs : Sh h D N i la) (hi : i < D) {x : Nat} (hx : x < N) : rdOf ByteArray.empty (X6 la (D : Int) N) (x : Int) = E h D x i := by
  rw [X6_get la D N x hx, hs.2 x 0 hx (by omega), if_pos (by omega), Nat.zero_add]
theorem sh_ext {h h' la lb : List ByteArray} {D N i : Nat} (hD : 1 ≤ D) (ha : Sh h D N i la) (hb : Sh h' D N i lb) (he : ∀ x j, x < N → j < D → i ≤ j → E h D x j = E h' D x j) : la = lb := by
  apply List.ext_getElem (by rw [ha.1, hb.1])
  intro m h1 h2
  have hm : m < N * D := by rw [← ha.1]; exact h1
  have hx : m / D < N := Nat.div_lt_of_lt_mul (by rw [Nat.mul_comm]; exact hm)
  have hj : m % D < D := Nat.mod_lt _ hD
  have e : m / D * D + m % D = m := by rw [Nat.mul_comm]; exact Nat.div_add_mod m D
  have ea := ha.2 _ _ hx hj
  have eb := hb.2 _ _ hx hj
  unfold E at ea eb
  rw [e, List.getD_eq_getElem?_getD, List.getElem?_eq_getElem h1] at ea
  rw [e, List.getD_eq_getElem?_getD, List.getElem?_eq_getElem h2] at eb
  have hh : (if m % D + i < D then h.getD (m / D * D + (m % D + i)) ByteArray.empty else (⟨#[]⟩ : ByteArray)) = (if m % D + i < D then h'.getD (m / D * D + (m % D + i)) ByteArray.empty else (⟨#[]⟩ : ByteArray)) := by
    by_cases q : m % D + i < D
    · rw [if_pos q, if_pos q]
      exact he _ _ hx q (by omega)
    · rw [if_neg q, if_neg q]
  exact ea.trans (hh.trans eb.symm)
theorem sh_end {h la : List ByteArray} {D N : Nat} (hD : 1 ≤ D) (hs : Sh h D N D la) : la = List.replicate (N * D) (⟨#[]⟩ : ByteArray) := by
  apply List.ext_getElem (by rw [hs.1, List.length_replicate])
  intro m h1 h2
  have hm : m < N * D := by rw [← hs.1]; exact h1
  have hx : m / D < N := Nat.div_lt_of_lt_mul (by rw [Nat.mul_comm]; exact hm)
  have hj : m % D < D := Nat.mod_lt _ hD
  have e : m / D * D + m % D = m := by rw [Nat.mul_comm]; exact Nat.div_add_mod m D
  have ea := hs.2 _ _ hx hj
  unfold E at ea
  rw [e, List.getD_eq_getElem?_getD, List.getElem?_eq_getElem h1, if_neg (by omega)] at ea
  rw [List.getElem_replicate]
  exact ea
theorem E_set (h : List ByteArray) (D N x0 j0 x j : Nat) (b : ByteArray) (hl : h.length = N * D) (hx0 : x0 < N) (hj0 : j0 < D) (hj : j < D) : E (h.set (x0 * D + j0) b) D x j = if x = x0 ∧ j = j0 then b else E h D x j := by
  have hlt := row_lt hx0 hj0
  unfold E
  rw [List.getD_eq_getElem?_getD, List.getElem?_set]
  by_cases q : x = x0 ∧ j = j0
  · rw [if_pos q, q.1, q.2, if_pos rfl, if_pos (by omega)]
    rfl
  · rw [if_neg q, if_neg, List.getD_eq_getElem?_getD]
    intro e
    apply q
    rcases Nat.lt_trichotomy x x0 with h1 | h1 | h1
    · have := row_lt h1 hj
      omega
    · subst h1
      exact ⟨rfl, by omega⟩
    · have := row_lt h1 hj0
      omega
end Go.Proofs.Ytfdkmeokfmgfhaa.HoldLib
