/- What is taken, and how many are held, as the document says. -/
import Derived.Test.YtfdkmeokfmgfhaaHoldLib
set_option linter.unusedVariables false
set_option linter.unusedSimpArgs false
namespace Go.Proofs.Ytfdkmeokfmgfhaa.HoldLib
open Go.RowKit Go.Proofs.Ytfdkmeokfmgfhaa.X Go.Proofs.YtfdkmeokfmgfhaaW.PrintWords Go.Proofs.Ytfdkmeokfmgfhaa.ConfLib
/-- The document's rows, as far as the first nodes. -/
def X6 (l : List ByteArray) (d : Int) : Nat → List ByteArray
  | 0 => []
  | j + 1 => X6 l d j ++ [rdOf ByteArray.empty l ((j : Int) * d)]
def seg (l : List ByteArray) (d : Int) (j : Nat) : List ByteArray := (l.drop (((j : Int) * d).toNat + 1)).take (d.toNat - 1)
def X7 (l : List ByteArray) (d : Int) : Nat → List ByteArray
  | 0 => []
  | j + 1 => X7 l d j ++ seg l d j ++ [(⟨#[]⟩ : ByteArray)]
theorem X6_len (l : List ByteArray) (d : Int) : ∀ j, (X6 l d j).length = j
  | 0 => rfl
  | j + 1 => by rw [X6, List.length_append, X6_len l d j]; rfl
theorem seg_len (l : List ByteArray) {d n : Int} (hd : 1 ≤ d) (hn : n * d = l.length) (j : Nat) (hj : (j : Int) < n) : (seg l d j).length = d.toNat - 1 := by
  have hf := hold_Take.fits (d := d) (x := (j : Int)) (n := n) hd (by omega) hj
  unfold seg
  rw [List.length_take, List.length_drop]
  omega
theorem succ_mul (j : Nat) (d : Int) : ((j + 1 : Nat) : Int) * d = (j : Int) * d + d := by
  rw [Int.natCast_add, Int.add_mul]
  simp
theorem seg_cut (l : List ByteArray) {d : Int} (hd : 1 ≤ d) (j : Nat) (hf : 0 ≤ (j : Int) * d) : (l.take ((j : Int) * d + d).toNat).drop ((j : Int) * d + 1).toNat = seg l d j := by
  unfold seg
  generalize (j : Int) * d = y at hf
  rw [List.drop_take, show (y + 1).toNat = y.toNat + 1 by omega, show (y + d).toNat - (y.toNat + 1) = d.toNat - 1 by omega]
theorem X7_len (l : List ByteArray) {d n : Int} (hd : 1 ≤ d) (hn : n * d = l.length) : ∀ j : Nat, (j : Int) ≤ n → (X7 l d j).length = ((j : Int) * d).toNat
  | 0, _ => by simp [X7]
  | j + 1, h => by
    have ih := X7_len l hd hn j (by omega)
    have hs := seg_len l hd hn j (by omega)
    have hf := hold_Take.fits (d := d) (x := (j : Int)) (n := n) hd (by omega) (by omega)
    rw [X7, List.length_append, List.length_append, ih, hs, succ_mul]
    simp
    omega
theorem set_mid {α : Type} (L R : List α) (x y : α) : (L ++ y :: R).set L.length x = L ++ x :: R := by
  rw [List.set_append_right _ _ (Nat.le_refl _)]
  simp
theorem now_eq (l : List ByteArray) (d : Int) (N : Nat) : ∀ j, j ≤ N → hold_Take.now l d N j = X6 l d j ++ List.replicate (N - j) (⟨#[]⟩ : ByteArray)
  | 0, _ => by simp [hold_Take.now, X6]
  | j + 1, h => by
    rw [hold_Take.now, now_eq l d N j (by omega), show N - j = (N - (j + 1)) + 1 by omega, List.replicate_succ]
    have e := set_mid (X6 l d j) (List.replicate (N - (j + 1)) (⟨#[]⟩ : ByteArray)) (rdOf ByteArray.empty l ((j : Int) * d)) (⟨#[]⟩ : ByteArray)
    rw [X6_len] at e
    rw [e, X6]
    simp
theorem splice_mid {α : Type} (L R S : List α) (x : α) (n : Nat) (hn : S.length ≤ n) : splice (L ++ List.replicate n x) L.length S = L ++ S ++ List.replicate (n - S.length) x := by
  unfold splice
  simp
theorem rest_eq (l : List ByteArray) {d n : Int} (hd : 1 ≤ d) (hn : n * d = l.length) : ∀ j : Nat, (j : Int) ≤ n → hold_Take.rest l d j = X7 l d j ++ List.replicate (l.length - ((j : Int) * d).toNat) (⟨#[]⟩ : ByteArray)
  | 0, _ => by simp [hold_Take.rest, X7]
  | j + 1, h => by
    have hf := hold_Take.fits (d := d) (x := (j : Int)) (n := n) hd (by omega) (by omega)
    have hs := seg_len l hd hn j (by omega)
    have h7 := X7_len l hd hn j (by omega)
    rw [hold_Take.rest, rest_eq l hd hn j (by omega)]
    have e := splice_mid (X7 l d j) [] (seg l d j) (⟨#[]⟩ : ByteArray) (l.length - ((j : Int) * d).toNat) (by omega)
    rw [h7] at e
    show splice _ _ (seg l d j) = _
    rw [e, X7, hs, succ_mul, show l.length - ((j : Int) * d).toNat - (d.toNat - 1) = (l.length - ((j : Int) * d + d).toNat) + 1 by omega, List.replicate_succ]
    simp
section
variable (n f d p r dr o s m fr : Int) (t : List Int) (l : List ByteArray)
theorem ref_take_loop (hp : plain n f d p r dr o s m fr t = 0) (hl : (l.length : Int) = n * d) (q : Nat) : ∀ (k j : Nat), (j : Int) + q = n → q < k → bellwetherref12_Take.l0 k l (X6 l d j) (X7 l d j) (j : Int) n f d p r dr o s m fr t = some (X6 l d n.toNat, X7 l d n.toNat) := by
  have hb := plain_facts hp
  have hm := nd_facts (n := n) (d := d) (by omega) (by omega)
  induction q with
  | zero =>
    intro k j hj hk
    obtain ⟨k, rfl⟩ : ∃ i, k = i + 1 := ⟨k - 1, by omega⟩
    simp only [bellwetherref12_Take.l0]
    rw [if_neg (by omega), show n.toNat = j by omega]
  | succ q ih =>
    intro k j hj hk
    obtain ⟨k, rfl⟩ : ∃ i, k = i + 1 := ⟨k - 1, by omega⟩
    have hf := hold_Take.fits (d := d) (x := (j : Int)) (n := n) (by omega) (by omega) (by omega)
    have h6 := X6_len l d j
    have h7 := X7_len l (d := d) (n := n) (by omega) hl.symm j (by omega)
    have hs := seg_len l (d := d) (n := n) (by omega) hl.symm j (by omega)
    have e1 := seg_cut l (d := d) (by omega) j hf.1
    have b1 : -9223372036854775808 ≤ (j : Int) * d ∧ (j : Int) * d ≤ 9223372036854775807 := by omega
    have b2 : -9223372036854775808 ≤ (j : Int) * d + 1 ∧ (j : Int) * d + 1 ≤ 9223372036854775807 := by omega
    have b3 : -9223372036854775808 ≤ (j : Int) + 1 ∧ (j : Int) + 1 ≤ 9223372036854775807 := by omega
    have b4 : -9223372036854775808 ≤ (j : Int) * d + d ∧ (j : Int) * d + d ≤ 9223372036854775807 := by omega
    have b5 : ((j : Int) + 1) * d = (j : Int) * d + d := by rw [Int.add_mul, Int.one_mul]
    have w1 : wrap64 ((j : Int) * d) = (j : Int) * d := ConfLib.wrap_small b1.1 b1.2
    have w2 : wrap64 (wrap64 ((j : Int) * d) + 1) = (j : Int) * d + 1 := by rw [w1]; exact ConfLib.wrap_small b2.1 b2.2
    have w3 : wrap64 (wrap64 ((j : Int) + 1) * d) = (j : Int) * d + d := by rw [ConfLib.wrap_small b3.1 b3.2, b5]; exact ConfLib.wrap_small b4.1 b4.2
    simp only [bellwetherref12_Take.l0, w2, w3]
    simp only [w1, e1]
    clear w1 w2 w3 b1 b2 b3 b4 b5
    rw [if_pos (by omega), if_pos (by omega), if_pos (by omega), if_pos (by omega), if_pos (by omega), if_pos (by omega), if_pos (by omega), if_pos (by omega)]
    simp only [Option.bind_some]
    rw [if_pos (by rw [List.length_append]; omega), ConfLib.wrap_small (n := (j : Int) + 1) (by omega) (by omega), show ((j : Int) + 1) = ((j + 1 : Nat) : Int) by omega]
    exact ih k (j + 1) (by omega) (by omega)
/-- What is for this tick, and what stays. -/
def take : List ByteArray × List ByteArray := if F n f d p r dr o s m fr t l = true then (X6 l d n.toNat, X7 l d n.toNat) else ([], [])
theorem take_at {k : Nat} (hk : 10 < k) : hold_Take.f k n f d p r dr o s m fr t l = some (take n f d p r dr o s m fr t l) := by
  unfold hold_Take.f take
  rw [fits_at n f d p r dr o s m fr t l hk]
  simp only [Option.bind_some]
  by_cases hF : F n f d p r dr o s m fr t l = true
  · obtain ⟨hp, hl⟩ := (F_iff _ _ _ _ _ _ _ _ _ _ _ _).1 hF
    have hb := plain_facts hp
    have hm := nd_facts (n := n) (d := d) (by omega) (by omega)
    rw [if_pos hF, if_pos hF, if_pos ⟨by omega, by omega, by omega, by omega, hl.symm⟩, now_eq l d n.toNat n.toNat (Nat.le_refl _), rest_eq l (d := d) (n := n) (by omega) hl.symm n.toNat (by omega), show ((n.toNat : Nat) : Int) = n by omega, ← hl]
    simp
  · rw [if_neg hF, if_neg hF]
theorem ref_take_at {k : Nat} (hk : 800 < k) : bellwetherref12_Take.f k n f d p r dr o s m fr t l = some (take n f d p r dr o s m fr t l) := by
  unfold bellwetherref12_Take.f take
  rw [ref_fits_at n f d p r dr o s m fr t l (by omega)]
  simp only [Option.bind_some]
  by_cases hF : F n f d p r dr o s m fr t l = true
  · obtain ⟨hp, hl⟩ := (F_iff _ _ _ _ _ _ _ _ _ _ _ _).1 hF
    have hb := plain_facts hp
    rw [if_pos hF, if_pos hF]
    exact ref_take_loop n f d p r dr o s m fr t l hp hl n.toNat k 0 (by omega) (by omega)
  · rw [if_neg hF, if_neg hF]
theorem take_len : (take n f d p r dr o s m fr t l).1.length ≤ 100 ∧ (take n f d p r dr o s m fr t l).2.length ≤ 100 := by
  unfold take
  split
  · rename_i hF
    obtain ⟨hp, hl⟩ := (F_iff _ _ _ _ _ _ _ _ _ _ _ _).1 hF
    have hb := plain_facts hp
    have hm := nd_facts (n := n) (d := d) (by omega) (by omega)
    have h7 := X7_len l (d := d) (n := n) (by omega) hl.symm n.toNat (by omega)
    rw [X6_len, h7, show ((n.toNat : Nat) : Int) = n by omega]
    omega
  · simp
theorem ref_held_loop (hp : plain n f d p r dr o s m fr t = 0) (hl : (l.length : Int) = n * d) (x : Int) (hx : 0 ≤ x ∧ x < n) (q : Nat) : ∀ (k j : Nat), (j : Int) + q = d → q < k → bellwetherref12_Held.l0 k l x (hold_Held.cnt l (x * d) j) (j : Int) n f d p r dr o s m fr t = some (hold_Held.cnt l (x * d) d.toNat) := by
  have hb := plain_facts hp
  have hm := nd_facts (n := n) (d := d) (by omega) (by omega)
  have hf := hold_Take.fits (d := d) (x := x) (n := n) (by omega) hx.1 hx.2
  induction q with
  | zero =>
    intro k j hj hk
    obtain ⟨k, rfl⟩ : ∃ i, k = i + 1 := ⟨k - 1, by omega⟩
    simp only [bellwetherref12_Held.l0]
    rw [if_neg (by omega), show d.toNat = j by omega]
  | succ q ih =>
    intro k j hj hk
    obtain ⟨k, rfl⟩ : ∃ i, k = i + 1 := ⟨k - 1, by omega⟩
    have b1 : -9223372036854775808 ≤ x * d ∧ x * d ≤ 9223372036854775807 := by omega
    have b2 : -9223372036854775808 ≤ x * d + (j : Int) ∧ x * d + (j : Int) ≤ 9223372036854775807 := by omega
    have w1 : wrap64 (wrap64 (x * d) + (j : Int)) = x * d + (j : Int) := by rw [ConfLib.wrap_small b1.1 b1.2]; exact ConfLib.wrap_small b2.1 b2.2
    have hc := hold_Held.cnt_le l (x * d) j
    simp only [bellwetherref12_Held.l0, w1]
    clear w1 b1 b2
    rw [if_pos (by omega), if_pos (by omega), if_pos (by omega), ConfLib.wrap_small (n := (j : Int) + 1) (by omega) (by omega), show ((j : Int) + 1) = ((j + 1 : Nat) : Int) by omega]
    have ih' := ih k (j + 1) (by omega) (by omega)
    rw [hold_Held.cnt] at ih'
    split
    · rename_i h
      rw [if_pos h] at ih'
      exact ih'
    · rename_i h
      rw [if_neg h] at ih'
      rw [ConfLib.wrap_small (by omega) (by omega)]
      exact ih'
def held (x : Int) : Int := if F n f d p r dr o s m fr t l = true ∧ 0 ≤ x ∧ x < n then hold_Held.cnt l (x * d) d.toNat else 0
theorem held_at (x : Int) {k : Nat} (hk : 10 < k) : hold_Held.f k n f d p r dr o s m fr t l x = some (held n f d p r dr o s m fr t l x) := by
  unfold hold_Held.f held
  rw [fits_at n f d p r dr o s m fr t l hk, node_at]
  simp only [Option.bind_some]
  by_cases hF : F n f d p r dr o s m fr t l = true
  · obtain ⟨hp, hl⟩ := (F_iff _ _ _ _ _ _ _ _ _ _ _ _).1 hF
    have hb := plain_facts hp
    have hm := nd_facts (n := n) (d := d) (by omega) (by omega)
    rw [if_pos hF]
    by_cases hx : 0 ≤ x ∧ x < n
    · have hf := hold_Take.fits (d := d) (x := x) (n := n) (by omega) hx.1 hx.2
      rw [if_pos (decide_eq_true hx), if_pos ⟨hx.1, by omega, by omega, by omega, by rw [Int.add_mul, Int.one_mul]; omega, by omega⟩, if_pos ⟨hF, hx⟩]
    · rw [if_neg (by rw [decide_eq_false hx]; decide), if_neg (fun q => hx q.2)]
  · rw [if_neg hF, if_neg (fun q => hF q.1)]
theorem ref_held_at (x : Int) {k : Nat} (hk : 800 < k) : bellwetherref12_Held.f k n f d p r dr o s m fr t l x = some (held n f d p r dr o s m fr t l x) := by
  obtain ⟨k, rfl⟩ : ∃ i, k = i + 1 := ⟨k - 1, by omega⟩
  unfold bellwetherref12_Held.f held
  rw [ref_fits_at n f d p r dr o s m fr t l (by omega)]
  simp only [Option.bind_some, bellwetherref12_Held.j0, if_true, Bool.false_eq_true, if_false]
  by_cases hF : F n f d p r dr o s m fr t l = true
  · obtain ⟨hp, hl⟩ := (F_iff _ _ _ _ _ _ _ _ _ _ _ _).1 hF
    have hb := plain_facts hp
    rw [if_pos hF]
    by_cases hx0 : x < 0
    · rw [if_pos hx0, if_neg (fun q => by omega)]
    · rw [if_neg hx0]
      by_cases hx1 : x ≥ n
      · rw [if_pos (decide_eq_true hx1), if_neg (fun q => by omega)]
      · rw [if_neg (by rw [decide_eq_false hx1]; decide), if_pos ⟨hF, by omega, by omega⟩]
        exact ref_held_loop n f d p r dr o s m fr t l hp hl x ⟨by omega, by omega⟩ d.toNat k 0 (by omega) (by omega)
  · rw [if_neg hF, if_neg (fun q => hF q.1)]
end
end Go.Proofs.Ytfdkmeokfmgfhaa.HoldLib
