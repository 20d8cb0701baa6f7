import Derived.Test.YtbfnkdgjcpcmbaaYWireReads40
set_option linter.unusedVariables false
set_option linter.unusedSimpArgs false
namespace Go.Proofs.Ytbfnkdgjcpcmbaa.WireMath
def pv : List UInt8 → Nat
  | [] => 0
  | x :: l => (x.toNat - 48) + 4 * pv l
def Dg (l : List UInt8) : Prop := ∀ x ∈ l, 48 ≤ x.toNat ∧ x.toNat ≤ 51
def pckN : Nat → List UInt8 → List UInt8
  | 0, _ => []
  | m + 1, t => UInt8.ofNat (pv (t.take 4)) :: pckN m (t.drop 4)
def pck (t : List UInt8) : List UInt8 := pckN ((t.length + 3) / 4) t
def dgs : Nat → Nat → List UInt8
  | _, 0 => []
  | b, m + 1 => UInt8.ofNat (48 + b % 4) :: dgs (b / 4) m
def dt : List UInt8 → Nat → List UInt8
  | [], n => List.replicate n 48
  | b :: r, n => dgs b.toNat (min 4 n) ++ dt r (n - 4)
def db : List UInt8 → Nat → Bool
  | [], n => decide (n ≠ 0)
  | b :: r, n => if n = 0 then false else decide (b.toNat / 4 ^ (min 4 n) ≠ 0) || db r (n - 4)
theorem u8 {n : Nat} (h : n < 256) : (UInt8.ofNat n).toNat = n := by
  rw [UInt8.toNat_ofNat']; exact Nat.mod_eq_of_lt h
theorem dgs_length : ∀ (m b : Nat), (dgs b m).length = m
  | 0, _ => rfl
  | m + 1, b => by simp [dgs, dgs_length m]
theorem dt_length : ∀ (r : List UInt8) (n : Nat), (dt r n).length = n
  | [], n => by simp [dt]
  | b :: r, n => by simp [dt, dgs_length, dt_length r]; omega
theorem dt_zero : ∀ (r : List UInt8), dt r 0 = []
  | [] => rfl
  | b :: r => by simp [dt, dgs, dt_zero r]
theorem db_zero : ∀ (r : List UInt8), db r 0 = false
  | [] => rfl
  | b :: r => by simp [db]
theorem pv_lt : ∀ (l : List UInt8), Dg l → pv l < 4 ^ l.length
  | [], _ => by decide
  | x :: l, h => by
    have h1 := pv_lt l (fun y hy => h y (List.mem_cons_of_mem _ hy))
    have h2 := h x (List.mem_cons_self ..)
    simp only [pv, List.length_cons, Nat.pow_succ]
    omega
theorem pv_dgs : ∀ (m b : Nat), pv (dgs b m) = b % 4 ^ m
  | 0, b => by simp [dgs, pv, Nat.mod_one]
  | m + 1, b => by
    simp only [dgs, pv, pv_dgs m]
    rw [u8 (by omega), show 4 ^ (m + 1) = 4 * 4 ^ m by rw [Nat.pow_succ, Nat.mul_comm], Nat.mod_mul]
    omega
theorem dgs_pv : ∀ (l : List UInt8), Dg l → dgs (pv l) l.length = l
  | [], _ => rfl
  | x :: l, h => by
    have h2 := h x (List.mem_cons_self ..)
    simp only [pv, List.length_cons, dgs]
    rw [show (x.toNat - 48 + 4 * pv l) % 4 = x.toNat - 48 by omega, show (x.toNat - 48 + 4 * pv l) / 4 = pv l by omega, dgs_pv l (fun y hy => h y (List.mem_cons_of_mem _ hy)), show 48 + (x.toNat - 48) = x.toNat by omega, UInt8.ofNat_toNat]
theorem pckN_length : ∀ (m : Nat) (t : List UInt8), (pckN m t).length = m
  | 0, _ => rfl
  | m + 1, t => by simp [pckN, pckN_length m]
theorem pck_length (t : List UInt8) : (pck t).length = (t.length + 3) / 4 := pckN_length _ _
theorem quart {n : Nat} (h : n ≠ 0) : (n + 3) / 4 = (n - 4 + 3) / 4 + 1 := by omega
theorem dt_take (b : UInt8) (r : List UInt8) (n : Nat) : (dt (b :: r) n).take 4 = dgs b.toNat (min 4 n) := by
  simp only [dt]
  by_cases h : 4 ≤ n
  · rw [Nat.min_eq_left h, List.take_append_of_le_length (by rw [dgs_length]; omega), List.take_of_length_le (by rw [dgs_length]; omega)]
  · rw [show n - 4 = 0 by omega, dt_zero, List.append_nil, List.take_of_length_le (by rw [dgs_length]; omega)]
theorem dt_drop (b : UInt8) (r : List UInt8) (n : Nat) : (dt (b :: r) n).drop 4 = dt r (n - 4) := by
  simp only [dt]
  by_cases h : 4 ≤ n
  · rw [Nat.min_eq_left h, List.drop_append_of_le_length (by rw [dgs_length]; omega), List.drop_of_length_le (by rw [dgs_length]; omega), List.nil_append]
  · rw [show n - 4 = 0 by omega, dt_zero, List.append_nil, List.drop_of_length_le (by rw [dgs_length]; omega)]
theorem back : ∀ (r : List UInt8) (n : Nat), db r n = false → (n + 3) / 4 ≤ r.length ∧ pckN ((n + 3) / 4) (dt r n) = r.take ((n + 3) / 4)
  | [], n, h => by
    have h0 : n = 0 := by simpa [db] using h
    subst h0
    exact ⟨Nat.le_refl _, rfl⟩
  | b :: r, n, h => by
    by_cases h0 : n = 0
    · subst h0
      exact ⟨Nat.zero_le _, rfl⟩
    · simp only [db, if_neg h0, Bool.or_eq_false_iff] at h
      obtain ⟨h1, h2⟩ := h
      have h1 : b.toNat / 4 ^ (min 4 n) = 0 := by simpa using h1
      obtain ⟨h3, h4⟩ := back r (n - 4) h2
      rw [quart h0]
      refine ⟨by simp only [List.length_cons]; omega, ?_⟩
      have hlt : b.toNat < 4 ^ (min 4 n) := by
        rcases Nat.div_eq_zero_iff.1 h1 with h | h
        · exact absurd h (Nat.pos_iff_ne_zero.1 (Nat.pow_pos (by decide)))
        · exact h
      simp only [pckN, dt_take, dt_drop, h4, List.take_succ_cons, pv_dgs]
      rw [Nat.mod_eq_of_lt hlt, UInt8.ofNat_toNat]
theorem forth (q : Nat) : ∀ (t r : List UInt8), t.length ≤ q → Dg t → dt (pck t ++ r) t.length = t ∧ db (pck t ++ r) t.length = false := by
  induction q with
  | zero =>
    intro t r h _
    obtain rfl : t = [] := List.length_eq_zero_iff.1 (by omega)
    exact ⟨dt_zero _, db_zero _⟩
  | succ q ih =>
    intro t r h hd
    by_cases h0 : t.length = 0
    · obtain rfl : t = [] := List.length_eq_zero_iff.1 h0
      exact ⟨dt_zero _, db_zero _⟩
    · have e : pck t = UInt8.ofNat (pv (t.take 4)) :: pck (t.drop 4) := by
        unfold pck
        rw [quart h0, List.length_drop]
        rfl
      have hd1 : Dg (t.take 4) := fun x hx => hd x (List.mem_of_mem_take hx)
      have hd2 : Dg (t.drop 4) := fun x hx => hd x (List.mem_of_mem_drop hx)
      have hl : (t.take 4).length = min 4 t.length := List.length_take
      have hp := pv_lt _ hd1
      have h256 : 4 ^ (t.take 4).length ≤ 4 ^ 4 := Nat.pow_le_pow_right (by decide) (by omega)
      obtain ⟨i1, i2⟩ := ih (t.drop 4) r (by rw [List.length_drop]; omega) hd2
      rw [List.length_drop] at i1 i2
      rw [e, List.cons_append]
      constructor
      · simp only [dt]
        rw [i1, u8 (by omega), ← hl, dgs_pv _ hd1, List.take_append_drop]
      · simp only [db, if_neg h0]
        rw [i2, u8 (by omega), ← hl, Nat.div_eq_of_lt hp]
        rfl
theorem dgs_get : ∀ (m b i : Nat), i < m → (dgs b m).getD i 0 = UInt8.ofNat (48 + b / 4 ^ i % 4)
  | 0, _, _, h => by omega
  | m + 1, b, 0, h => by simp [dgs]
  | m + 1, b, i + 1, h => by
    have := dgs_get m (b / 4) i (by omega)
    simp only [dgs, List.getD_cons_succ, this]
    rw [Nat.pow_succ, Nat.mul_comm, Nat.div_div_eq_div_mul]
theorem dt_get : ∀ (r : List UInt8) (n i : Nat), i < n → (dt r n).getD i 0 = UInt8.ofNat (48 + (r.getD (i / 4) 0).toNat / 4 ^ (i % 4) % 4)
  | [], n, i, h => by
    simp only [dt, List.getD_eq_getElem?_getD, List.getElem?_replicate, if_pos h]
    simp
  | b :: r, n, i, h => by
    simp only [dt]
    by_cases h4 : i < 4
    · rw [List.getD_eq_getElem?_getD, List.getElem?_append_left (by rw [dgs_length]; omega), ← List.getD_eq_getElem?_getD, dgs_get _ _ _ (by omega), show i / 4 = 0 by omega, show i % 4 = i by omega]
      rfl
    · rw [List.getD_eq_getElem?_getD, List.getElem?_append_right (by rw [dgs_length]; omega), ← List.getD_eq_getElem?_getD, dgs_length, Nat.min_eq_left (by omega), dt_get r (n - 4) (i - 4) (by omega), show i / 4 = (i - 4) / 4 + 1 by omega, show (i - 4) % 4 = i % 4 by omega]
      rfl
end Go.Proofs.Ytbfnkdgjcpcmbaa.WireMath
