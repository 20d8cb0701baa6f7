import Derived.Test.YtbfnkdgjcpcmbaaYWireWrites46
import Derived.Test.YtbfnkdgjcpcmbaaYWireWrites17
import Derived.Test.YtbfnkdgjcpcmbaaYWireWrites28
set_option linter.unusedVariables false
set_option linter.unusedSimpArgs false
namespace Go.Proofs.Ytbfnkdgjcpcmbaa.PacketLib
open Go.RowKit Go.Proofs.Ytbfnkdgjcpcmbaa.X Go.Proofs.YtbfnkdgjcpcmbaaW.PrintWords Go.Proofs.Ytbfnkdgjcpcmbaa.ConfLib Go.Proofs.Ytbfnkdgjcpcmbaa.Bytes
def D (s : ByteArray) (n : Int) : Bool := decide ((s.size : Int) = n) && packet_digits.all s
theorem digits_at (s : ByteArray) (n : Int) : packet_digits.f s n = some (D s n) := rfl
theorem isd_bt (s : ByteArray) (i : Nat) (h : i < s.size) : packet_digits.isd (s[i]'h) = (!decide (bt s (i : Int) < 48) && !decide (bt s (i : Int) > 50)) := by
  rw [bt_nat s i h]
  have e : s.data.toList[i]'(by rw [data_length]; exact h) = s[i]'h := rfl
  rw [e]
  unfold packet_digits.isd
  by_cases h1 : (s[i]'h).toNat < 48
  · rw [decide_eq_false (by omega), decide_eq_true (show ((s[i]'h).toNat : Int) < 48 by omega)]
    rfl
  · by_cases h2 : (s[i]'h).toNat > 50
    · rw [decide_eq_false (show ¬ (s[i]'h).toNat ≤ 50 by omega), decide_eq_true (show ((s[i]'h).toNat : Int) > 50 by omega)]
      simp
    · rw [decide_eq_true (show (s[i]'h).toNat ≤ 50 by omega), decide_eq_false (show ¬ ((s[i]'h).toNat : Int) > 50 by omega), decide_eq_true (show 48 ≤ (s[i]'h).toNat by omega), decide_eq_false (show ¬ ((s[i]'h).toNat : Int) < 48 by omega)]
      rfl
theorem ref_digits_loop (s : ByteArray) (hs : s.size ≤ 1000) (q : Nat) : ∀ (k i : Nat), i + q = s.size → q < k → r10Digits.l0 k s (s.size : Int) (i : Int) = some ((s.data.toList.drop i).all packet_digits.isd) := by
  induction q with
  | zero =>
    intro k i hi hk
    obtain ⟨k, rfl⟩ : ∃ m, k = m + 1 := ⟨k - 1, by omega⟩
    simp only [r10Digits.l0]
    rw [if_neg (by omega), packet_digits.out_end s i (by omega)]
  | succ q ih =>
    intro k i hi hk
    obtain ⟨k, rfl⟩ : ∃ m, k = m + 1 := ⟨k - 1, by omega⟩
    have hlt : i < s.size := by omega
    simp only [r10Digits.l0]
    rw [if_pos (by omega), if_pos (by omega), if_pos (by omega), packet_digits.out_step s i hlt, isd_bt s i hlt]
    by_cases h1 : bt s (i : Int) < 48
    · rw [if_pos h1, decide_eq_true h1]
      rfl
    · rw [if_neg h1, decide_eq_false h1]
      by_cases h2 : bt s (i : Int) > 50
      · rw [if_pos h2, decide_eq_true h2]
        rfl
      · rw [if_neg h2, decide_eq_false h2, ConfLib.wrap_small (by omega) (by omega), show ((i : Int) + 1) = ((i + 1 : Nat) : Int) by omega, ih k (i + 1) (by omega) (by omega)]
        rfl
theorem ref_digits_at (s : ByteArray) (n : Int) (hn : n ≤ 1000) {k : Nat} (hk : 1000 < k) : r10Digits.f k s n = some (D s n) := by
  unfold r10Digits.f D
  by_cases h : (s.size : Int) = n
  · subst h
    rw [if_pos rfl, decide_eq_true rfl, show (0 : Int) = ((0 : Nat) : Int) from rfl, ref_digits_loop s (by omega) s.size k 0 (by omega) (by omega)]
    rfl
  · rw [if_neg h, decide_eq_false h]
    rfl
section
variable (n f d p r dr o s m fr : Int) (t : List Int) (v : ByteArray) (ex : Int) (vec : ByteArray) (slot cyc : Int) (tx : ByteArray)
def vecOk : Bool := if ex = 0 then (vec.toList == ([] : List UInt8)) else decide (0 < ex ∧ ex ≤ rounds n f d p r dr o s m fr t) && D vec (ConfLib.bits n f d p r dr o s m fr t)
def numOk : Bool := decide (0 ≤ cyc ∧ cyc < m ∧ (slot = 0 → cyc = 0 ∧ tx.toList = []))
def right : Int :=
  if plain n f d p r dr o s m fr t = 0 then
    (if D v (rounds n f d p r dr o s m fr t) = true then
      (if vecOk n f d p r dr o s m fr t ex vec = true then
        (if slot < 0 ∨ (t.length : Int) < slot then 11 else if numOk m slot cyc tx = true then (if (tx.size : Int) > 16 then 15 else 0) else 2)
      else 16)
    else 3)
  else plain n f d p r dr o s m fr t
theorem vector_at {k : Nat} (hk : 11 < k) : packet_vector.f k n f d p r dr o s m fr t v ex vec slot cyc tx = some (vecOk n f d p r dr o s m fr t ex vec) := by
  obtain ⟨k, rfl⟩ : ∃ j, k = j + 1 := ⟨k - 1, by omega⟩
  unfold packet_vector.f vecOk
  by_cases h0 : ex = 0
  · rw [if_pos h0, if_pos h0]
  · rw [if_neg h0, if_neg h0]
    by_cases h1 : ex < 0
    · rw [if_pos h1, decide_eq_true h1, decide_eq_false (by omega)]
      simp only [packet_vector.j0, if_true, Bool.false_and]
    · rw [if_neg h1, rounds_at n f d p r dr o s m fr t (by omega)]
      simp only [Option.bind_some, packet_vector.j0]
      rw [bits_at n f d p r dr o s m fr t (by omega)]
      simp only [Option.bind_some, digits_at]
      by_cases h2 : ex > rounds n f d p r dr o s m fr t
      · rw [decide_eq_true h2, decide_eq_false (by omega)]
        rfl
      · rw [decide_eq_false h2, decide_eq_true (by omega)]
        simp
theorem numbered_at : packet_numbered.f n f d p r dr o s m fr t v ex vec slot cyc tx = some (numOk m slot cyc tx) := by
  unfold packet_numbered.f numOk
  by_cases h0 : slot = 0
  · rw [if_pos h0]
    by_cases h1 : cyc ≥ 0
    · rw [if_pos h1]
      by_cases h2 : tx.toList = []
      · rw [if_pos h2]
        by_cases h3 : cyc = 0
        · rw [if_pos h3]
          simp [h0, h1, h2, h3]
        · rw [if_neg h3, decide_eq_false (fun q => h3 (q.2.2 h0).1)]
      · rw [if_neg h2, decide_eq_false (fun q => h2 (q.2.2 h0).2)]
    · rw [if_neg h1, decide_eq_false (fun q => h1 q.1)]
  · rw [if_neg h0]
    by_cases h1 : cyc ≥ 0
    · rw [if_pos h1]
      simp [h0]
      omega
    · rw [if_neg h1, decide_eq_false (fun q => h1 q.1)]
theorem right_at {k : Nat} (hk : 12 < k) : packet_Right.f k n f d p r dr o s m fr t v ex vec slot cyc tx = some (right n f d p r dr o s m fr t v ex vec slot cyc tx) := by
  obtain ⟨k, rfl⟩ : ∃ j, k = j + 1 := ⟨k - 1, by omega⟩
  unfold packet_Right.f right
  rw [plain_at n f d p r dr o s m fr t (by omega)]
  simp only [Option.bind_some]
  by_cases hp : plain n f d p r dr o s m fr t = 0
  · rw [if_pos hp, if_pos hp, rounds_at n f d p r dr o s m fr t (by omega)]
    simp only [Option.bind_some, digits_at]
    by_cases hd : D v (rounds n f d p r dr o s m fr t) = true
    · rw [if_pos hd, if_pos hd, vector_at n f d p r dr o s m fr t v ex vec slot cyc tx (by omega)]
      simp only [Option.bind_some]
      by_cases hv : vecOk n f d p r dr o s m fr t ex vec = true
      · rw [if_pos hv, if_pos hv]
        simp only [packet_Right.j0, numbered_at, Option.bind_some]
        by_cases h1 : slot < 0
        · rw [if_pos h1, decide_eq_true h1, if_pos rfl, if_pos (Or.inl h1)]
        · rw [if_neg h1]
          by_cases h2 : slot > (t.length : Int)
          · rw [decide_eq_true h2, if_pos rfl, if_pos (Or.inr h2)]
          · rw [decide_eq_false h2, if_neg (show ¬ (false = true) by decide), if_neg (show ¬ (slot < 0 ∨ (t.length : Int) < slot) by omega)]
            by_cases hn : numOk m slot cyc tx = true
            · rw [if_pos hn, if_pos hn]
              split <;> rfl
            · rw [if_neg hn, if_neg hn]
      · rw [if_neg hv, if_neg hv]
    · rw [if_neg hd, if_neg hd]
  · rw [if_neg hp, if_neg hp]
theorem ref_right_at {k : Nat} (hk : 1010 < k) : r10Right.f k n f d p r dr o s m fr t v ex vec slot cyc tx = some (right n f d p r dr o s m fr t v ex vec slot cyc tx) := by
  obtain ⟨k, rfl⟩ : ∃ j, k = j + 3 := ⟨k - 3, by omega⟩
  have hr : rounds n f d p r dr o s m fr t ≤ 15 ∧ ConfLib.bits n f d p r dr o s m fr t ≤ 21 := by
    unfold rounds ConfLib.bits
    by_cases hp : plain n f d p r dr o s m fr t = 0
    · have := plain_facts hp
      rw [if_pos hp, if_pos hp]
      omega
    · rw [if_neg hp, if_neg hp]
      omega
  have j2 : ∀ (b : Bool) (k : Nat), r10Right.j2 (k + 1) b v ex vec slot cyc tx = some (if b = true then 2 else if (tx.size : Int) > 16 then 15 else 0) := by
    intro b k
    simp only [r10Right.j2]
    split <;> (try split) <;> rfl
  have j1 : ∀ (b : Bool) (k : Nat), r10Right.j1 (k + 2) b n f d p r dr o s m fr t v ex vec slot cyc tx = some (if b = true then 11 else if numOk m slot cyc tx = true then (if (tx.size : Int) > 16 then 15 else 0) else 2) := by
    intro b k
    simp only [r10Right.j1, j2, if_true, Bool.false_eq_true, if_false]
    by_cases hb : b = true
    · rw [if_pos hb, if_pos hb]
    · rw [if_neg hb, if_neg hb]
      by_cases h1 : cyc < 0
      · rw [if_pos h1, if_neg (show ¬ numOk m slot cyc tx = true by unfold numOk; rw [decide_eq_false (fun q => by omega)]; decide)]
      · rw [if_neg h1]
        by_cases h2 : cyc ≥ m
        · rw [if_pos h2, if_neg (show ¬ numOk m slot cyc tx = true by unfold numOk; rw [decide_eq_false (fun q => by omega)]; decide)]
        · rw [if_neg h2]
          by_cases h3 : slot = 0
          · rw [if_pos h3]
            by_cases h4 : cyc = 0
            · rw [if_pos h4]
              by_cases h5 : tx.toList = []
              · rw [if_neg (show ¬ ((tx.toList != ([] : List UInt8)) = true) by rw [h5]; decide), if_pos (show numOk m slot cyc tx = true by unfold numOk; exact decide_eq_true ⟨by omega, by omega, fun _ => ⟨h4, h5⟩⟩)]
              · rw [if_pos (show (tx.toList != ([] : List UInt8)) = true by simpa using h5), if_neg (show ¬ numOk m slot cyc tx = true by unfold numOk; rw [decide_eq_false (fun q => h5 (q.2.2 h3).2)]; decide)]
            · rw [if_neg h4, if_neg (show ¬ numOk m slot cyc tx = true by unfold numOk; rw [decide_eq_false (fun q => h4 (q.2.2 h3).1)]; decide)]
          · rw [if_neg h3, if_pos (show numOk m slot cyc tx = true by unfold numOk; exact decide_eq_true ⟨by omega, by omega, fun q => absurd q h3⟩)]
  have j0 : ∀ (b : Bool) (k : Nat), r10Right.j0 (k + 3) b n f d p r dr o s m fr t v ex vec slot cyc tx = some (if b = true then 16 else if slot < 0 ∨ (t.length : Int) < slot then 11 else if numOk m slot cyc tx = true then (if (tx.size : Int) > 16 then 15 else 0) else 2) := by
    intro b k
    simp only [r10Right.j0, j1, if_true, Bool.false_eq_true, if_false]
    by_cases hb : b = true
    · rw [if_pos hb, if_pos hb]
    · rw [if_neg hb, if_neg hb]
      by_cases h1 : slot < 0
      · rw [if_pos h1, if_pos (Or.inl h1)]
      · rw [if_neg h1]
        by_cases h2 : slot > (t.length : Int)
        · rw [if_pos (decide_eq_true h2), if_pos (Or.inr h2)]
        · rw [if_neg (show ¬ (decide (slot > (t.length : Int)) = true) by rw [decide_eq_false h2]; decide), if_neg (show ¬ (slot < 0 ∨ (t.length : Int) < slot) by omega)]
  unfold r10Right.f right
  rw [ref_plain_at n f d p r dr o s m fr t (by omega)]
  simp only [Option.bind_some]
  by_cases hp : plain n f d p r dr o s m fr t = 0
  · rw [if_pos hp, if_pos hp, ref_rounds_at n f d p r dr o s m fr t (by omega)]
    simp only [Option.bind_some]
    rw [ref_digits_at v _ (by omega) (by omega)]
    simp only [Option.bind_some]
    by_cases hd : D v (rounds n f d p r dr o s m fr t) = true
    · rw [if_pos hd, if_pos hd]
      simp only [j0]
      have hvb : ∀ b : Bool, b = !(vecOk n f d p r dr o s m fr t ex vec) → (some (if b = true then (16 : Int) else if slot < 0 ∨ (t.length : Int) < slot then 11 else if numOk m slot cyc tx = true then (if (tx.size : Int) > 16 then 15 else 0) else 2)) = some (if vecOk n f d p r dr o s m fr t ex vec = true then (if slot < 0 ∨ (t.length : Int) < slot then 11 else if numOk m slot cyc tx = true then (if (tx.size : Int) > 16 then 15 else 0) else 2) else 16) := by
        intro b hb
        rw [hb]
        cases vecOk n f d p r dr o s m fr t ex vec <;> rfl
      by_cases h1 : ex < 0
      · rw [if_pos h1]
        exact hvb true (by unfold vecOk; rw [if_neg (by omega), decide_eq_false (by omega)]; rfl)
      · rw [if_neg h1]
        by_cases h2 : ex > rounds n f d p r dr o s m fr t
        · rw [if_pos h2]
          have hr0 : 0 ≤ rounds n f d p r dr o s m fr t := by
            unfold rounds
            have := plain_facts hp
            rw [if_pos hp]
            omega
          exact hvb true (by unfold vecOk; rw [if_neg (by omega), decide_eq_false (by omega)]; rfl)
        · rw [if_neg h2]
          by_cases h3 : ex = 0
          · rw [if_pos h3]
            by_cases h4 : vec.toList = []
            · rw [if_pos h4, if_neg (by omega)]
              exact hvb false (by unfold vecOk; rw [if_pos h3, h4]; rfl)
            · rw [if_neg h4]
              exact hvb true (by unfold vecOk; rw [if_pos h3]; simp [h4])
          · rw [if_neg h3, if_pos (by omega), ref_bits_at n f d p r dr o s m fr t (by omega)]
            simp only [Option.bind_some]
            rw [ref_digits_at vec _ (by omega) (by omega)]
            simp only [Option.bind_some]
            exact hvb _ (by unfold vecOk; rw [if_neg h3, decide_eq_true (by omega)]; simp)
    · rw [if_neg hd, if_neg hd]
  · rw [if_neg hp, if_neg hp]
end
end Go.Proofs.Ytbfnkdgjcpcmbaa.PacketLib
