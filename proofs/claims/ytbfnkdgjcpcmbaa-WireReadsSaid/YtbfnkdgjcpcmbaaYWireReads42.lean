import Derived.Test.YtbfnkdgjcpcmbaaYWireReads41
set_option linter.unusedVariables false
set_option linter.unusedSimpArgs false
namespace Go.Proofs.Ytbfnkdgjcpcmbaa.WireMath
def tagN (ex slot : Nat) : Nat := 64 + (if ex = 0 then 0 else 1) + (if slot = 0 then 0 else 2)
def vecL (ex : Nat) (vec : List UInt8) : List UInt8 := if ex = 0 then [] else UInt8.ofNat ex :: pck vec
def msgL (slot cyc : Nat) (tx : List UInt8) : List UInt8 := if slot = 0 then [] else UInt8.ofNat slot :: UInt8.ofNat cyc :: UInt8.ofNat tx.length :: tx
def PL (v : List UInt8) (ex : Nat) (vec : List UInt8) (slot cyc : Nat) (tx : List UInt8) : List UInt8 :=
  UInt8.ofNat (tagN ex slot) :: (pck v ++ (vecL ex vec ++ msgL slot cyc tx))
def hd0 : List UInt8 → Nat
  | [] => 0
  | b :: _ => b.toNat
theorem hd0_lt (l : List UInt8) : hd0 l < 256 := by
  cases l with
  | nil => decide
  | cons b l => exact b.toNat_lt
def rdV (B t : Nat) (r : List UInt8) (bad : Bool) : Nat × List UInt8 × List UInt8 × Bool :=
  if t % 2 = 0 then (0, [], r, bad) else (hd0 r, dt r.tail B, r.tail.drop ((B + 3) / 4), ((bad || r.isEmpty) || (hd0 r == 0)) || db r.tail B)
def rdM (t : Nat) (r : List UInt8) (bad : Bool) : Nat × Nat × List UInt8 × List UInt8 × Bool :=
  if t / 2 % 2 = 0 then (0, 0, [], r, bad) else
    if ((((bad || r.isEmpty) || (hd0 r == 0)) || r.tail.isEmpty) || r.tail.tail.isEmpty) || decide (r.tail.tail.tail.length < hd0 r.tail.tail) then (hd0 r, hd0 r.tail, [], r.tail.tail.tail, true)
    else (hd0 r, hd0 r.tail, r.tail.tail.tail.take (hd0 r.tail.tail), r.tail.tail.tail.drop (hd0 r.tail.tail), false)
def rdB (R : Nat) (l : List UInt8) : Bool := (l.isEmpty || decide (hd0 l / 4 ≠ 16)) || db l.tail R
def rdX (R B : Nat) (l : List UInt8) : Nat × List UInt8 × List UInt8 × Bool := rdV B (hd0 l) (l.tail.drop ((R + 3) / 4)) (rdB R l)
def rdY (R B : Nat) (l : List UInt8) : Nat × Nat × List UInt8 × List UInt8 × Bool := rdM (hd0 l) (rdX R B l).2.2.1 (rdX R B l).2.2.2
def rdBad (R B : Nat) (l : List UInt8) : Bool := (rdY R B l).2.2.2.2 || !(rdY R B l).2.2.2.1.isEmpty
theorem tail_cons {r : List UInt8} (h : r.isEmpty = false) : r = UInt8.ofNat (hd0 r) :: r.tail := by
  cases r with
  | nil => cases h
  | cons b r => simp [hd0]
theorem rdV_good {B t : Nat} {r : List UInt8} {bad : Bool} (h : (rdV B t r bad).2.2.2 = false) :
    bad = false ∧ ((rdV B t r bad).1 = 0 ↔ t % 2 = 0) ∧ r = vecL (rdV B t r bad).1 (rdV B t r bad).2.1 ++ (rdV B t r bad).2.2.1 := by
  unfold rdV at h ⊢
  by_cases h0 : t % 2 = 0
  · rw [if_pos h0] at h ⊢
    exact ⟨h, by simp [h0], rfl⟩
  · rw [if_neg h0] at h ⊢
    simp only [Bool.or_eq_false_iff, beq_eq_false_iff_ne] at h ⊢
    obtain ⟨⟨⟨h1, h2⟩, h3⟩, h4⟩ := h
    refine ⟨h1, by simp [h0, h3], ?_⟩
    obtain ⟨h5, h6⟩ := back _ _ h4
    unfold vecL pck
    rw [if_neg h3, dt_length, h6]
    conv => lhs; rw [tail_cons h2]
    rw [List.cons_append, List.take_append_drop]
theorem rdM_good {t : Nat} {r : List UInt8} {bad : Bool} (h : (rdM t r bad).2.2.2.2 = false) (he : (rdM t r bad).2.2.2.1 = []) :
    bad = false ∧ ((rdM t r bad).1 = 0 ↔ t / 2 % 2 = 0) ∧ r = msgL (rdM t r bad).1 (rdM t r bad).2.1 (rdM t r bad).2.2.1 := by
  unfold rdM at h he ⊢
  by_cases h0 : t / 2 % 2 = 0
  · rw [if_pos h0] at h he ⊢
    exact ⟨h, by simp [h0], he⟩
  · rw [if_neg h0] at h he ⊢
    split at h
    · cases h
    · rename_i hb
      rw [if_neg hb] at he ⊢
      have hb := Bool.eq_false_iff.2 hb
      simp only [Bool.or_eq_false_iff, beq_eq_false_iff_ne, decide_eq_false_iff_not] at hb
      obtain ⟨⟨⟨⟨⟨h1, h2⟩, h3⟩, h4⟩, h5⟩, h6⟩ := hb
      refine ⟨h1, by simp [h0, h3], ?_⟩
      have he : r.tail.tail.tail.drop (hd0 r.tail.tail) = [] := he
      have e : r.tail.tail.tail.take (hd0 r.tail.tail) = r.tail.tail.tail := by
        have := List.take_append_drop (hd0 r.tail.tail) r.tail.tail.tail
        rw [he, List.append_nil] at this
        exact this
      have hl := List.drop_eq_nil_iff.1 he
      unfold msgL
      simp only
      rw [if_neg h3, e, show r.tail.tail.tail.length = hd0 r.tail.tail by omega, ← tail_cons h5, ← tail_cons h4, ← tail_cons h2]
theorem rd_good {R B : Nat} {l : List UInt8} (h : rdBad R B l = false) :
    PL (dt l.tail R) (rdX R B l).1 (rdX R B l).2.1 (rdY R B l).1 (rdY R B l).2.1 (rdY R B l).2.2.1 = l := by
  unfold rdBad at h
  rw [Bool.or_eq_false_iff] at h
  obtain ⟨h1, h2⟩ := h
  have h2 : (rdY R B l).2.2.2.1 = [] := by simpa using h2
  obtain ⟨h3, h4, h5⟩ := rdM_good h1 h2
  obtain ⟨h6, h7, h8⟩ := rdV_good h3
  have h6' := h6
  unfold rdB at h6
  simp only [Bool.or_eq_false_iff, decide_eq_false_iff_not] at h6
  obtain ⟨⟨h9, h10⟩, h11⟩ := h6
  obtain ⟨h12, h13⟩ := back _ _ h11
  have ht : tagN (rdX R B l).1 (rdY R B l).1 = hd0 l := by
    have a1 : (rdX R B l).1 = 0 ↔ hd0 l % 2 = 0 := h7
    have a2 : (rdY R B l).1 = 0 ↔ hd0 l / 2 % 2 = 0 := h4
    have := hd0_lt l
    unfold tagN
    by_cases b1 : (rdX R B l).1 = 0
    · have := a1.1 b1
      by_cases b2 : (rdY R B l).1 = 0
      · have := a2.1 b2
        rw [if_pos b1, if_pos b2]
        omega
      · have := fun q => b2 (a2.2 q)
        rw [if_pos b1, if_neg b2]
        omega
    · have := fun q => b1 (a1.2 q)
      by_cases b2 : (rdY R B l).1 = 0
      · have := a2.1 b2
        rw [if_neg b1, if_pos b2]
        omega
      · have := fun q => b2 (a2.2 q)
        rw [if_neg b1, if_neg b2]
        omega
  unfold PL
  rw [ht]
  have h5 : (rdX R B l).2.2.1 = msgL (rdY R B l).1 (rdY R B l).2.1 (rdY R B l).2.2.1 := h5
  have h8 : l.tail.drop ((R + 3) / 4) = vecL (rdX R B l).1 (rdX R B l).2.1 ++ (rdX R B l).2.2.1 := h8
  rw [← h5, ← h8]
  unfold pck
  rw [dt_length, h13, List.take_append_drop, ← tail_cons h9]
structure CanBe (R B : Nat) (v : List UInt8) (ex : Nat) (vec : List UInt8) (slot cyc : Nat) (tx : List UInt8) : Prop where
  vl : v.length = R
  vd : Dg v
  ex_lt : ex < 256
  e0 : ex = 0 → vec = []
  e1 : ex ≠ 0 → vec.length = B ∧ Dg vec
  slot_lt : slot < 256
  cyc_lt : cyc < 256
  s0 : slot = 0 → cyc = 0 ∧ tx = []
  tx_lt : tx.length < 256
theorem drop_pck (t r : List UInt8) {n : Nat} (h : t.length = n) : (pck t ++ r).drop ((n + 3) / 4) = r := by
  rw [List.drop_append_of_le_length (by rw [pck_length, h]; omega), List.drop_of_length_le (by rw [pck_length, h]; omega), List.nil_append]
theorem tagN_mod (ex slot : Nat) : tagN ex slot % 2 = 0 ↔ ex = 0 := by
  unfold tagN
  split <;> split <;> omega
theorem tagN_div (ex slot : Nat) : tagN ex slot / 2 % 2 = 0 ↔ slot = 0 := by
  unfold tagN
  split <;> split <;> omega
theorem tagN_16 (ex slot : Nat) : tagN ex slot / 4 = 16 := by
  unfold tagN
  split <;> split <;> omega
theorem tagN_lt (ex slot : Nat) : tagN ex slot < 256 := by
  unfold tagN
  split <;> split <;> omega
section
variable {R B : Nat} {v : List UInt8} {ex : Nat} {vec : List UInt8} {slot cyc : Nat} {tx : List UInt8}
theorem rd_PL (h : CanBe R B v ex vec slot cyc tx) : dt (PL v ex vec slot cyc tx).tail R = v ∧ (rdX R B (PL v ex vec slot cyc tx)).1 = ex ∧ (rdX R B (PL v ex vec slot cyc tx)).2.1 = vec ∧
    (rdY R B (PL v ex vec slot cyc tx)).1 = slot ∧ (rdY R B (PL v ex vec slot cyc tx)).2.1 = cyc ∧ (rdY R B (PL v ex vec slot cyc tx)).2.2.1 = tx ∧ rdBad R B (PL v ex vec slot cyc tx) = false := by
  obtain ⟨f1, f2⟩ := forth v.length v (vecL ex vec ++ msgL slot cyc tx) (Nat.le_refl _) h.vd
  rw [h.vl] at f1 f2
  have hh : hd0 (PL v ex vec slot cyc tx) = tagN ex slot := u8 (tagN_lt _ _)
  have hB : rdB R (PL v ex vec slot cyc tx) = false := by
    unfold rdB
    rw [hh, tagN_16]
    show (((PL v ex vec slot cyc tx).isEmpty || decide (16 ≠ 16)) || db (pck v ++ (vecL ex vec ++ msgL slot cyc tx)) R) = false
    rw [f2]
    rfl
  have hX : rdX R B (PL v ex vec slot cyc tx) = (ex, vec, msgL slot cyc tx, false) := by
    unfold rdX
    rw [hh, hB]
    show rdV B (tagN ex slot) ((pck v ++ (vecL ex vec ++ msgL slot cyc tx)).drop ((R + 3) / 4)) false = _
    rw [drop_pck _ _ h.vl]
    unfold rdV vecL
    by_cases h0 : ex = 0
    · rw [if_pos ((tagN_mod _ _).2 h0), if_pos h0, h.e0 h0, h0]
      rfl
    · obtain ⟨l1, l2⟩ := h.e1 h0
      obtain ⟨g1, g2⟩ := forth vec.length vec (msgL slot cyc tx) (Nat.le_refl _) l2
      rw [l1] at g1 g2
      rw [if_neg (fun q => h0 ((tagN_mod _ _).1 q)), if_neg h0]
      simp only [List.cons_append, hd0, List.tail_cons, u8 h.ex_lt, g1, g2, drop_pck _ _ l1, List.isEmpty_cons, beq_eq_false_iff_ne.2 h0, Bool.or_false]
  have hY : rdY R B (PL v ex vec slot cyc tx) = (slot, cyc, tx, [], false) := by
    unfold rdY
    rw [hX, hh]
    show rdM (tagN ex slot) (msgL slot cyc tx) false = _
    unfold rdM msgL
    by_cases h0 : slot = 0
    · rw [if_pos ((tagN_div _ _).2 h0), if_pos h0, (h.s0 h0).1, (h.s0 h0).2, h0]
    · rw [if_neg (fun q => h0 ((tagN_div _ _).1 q)), if_neg h0]
      simp only [hd0, List.tail_cons, u8 h.slot_lt, u8 h.cyc_lt, u8 h.tx_lt, List.isEmpty_cons, beq_eq_false_iff_ne.2 h0, Bool.or_false, Bool.false_or, Nat.lt_irrefl, decide_false, Bool.false_eq_true, if_false, List.take_length, List.drop_length]
  rw [hX, hY]
  unfold rdBad
  rw [hY]
  exact ⟨f1, rfl, rfl, rfl, rfl, rfl, rfl⟩
def up (l : List UInt8) (at_ n : Nat) : List UInt8 := if (n + 3) / 4 ≤ (l.drop at_).length then dt (l.drop at_) n else []
def gsX (R B : Nat) (l : List UInt8) : Nat × List UInt8 × Nat :=
  if hd0 l % 2 = 1 ∧ 1 + (R + 3) / 4 < l.length then (hd0 (l.drop (1 + (R + 3) / 4)), up l (1 + (R + 3) / 4 + 1) B, 1 + (R + 3) / 4 + 1 + (B + 3) / 4) else (0, [], 1 + (R + 3) / 4)
def gsY (a : Nat) (l : List UInt8) : Nat × Nat × List UInt8 :=
  if hd0 l / 2 % 2 = 1 ∧ a + 2 < l.length then (hd0 (l.drop a), hd0 (l.drop (a + 1)), l.drop (a + 3)) else (0, 0, [])
theorem up_db {l : List UInt8} {a n : Nat} (h : db (l.drop a) n = false) : up l a n = dt (l.drop a) n := if_pos (back _ _ h).1
theorem isE {r : List UInt8} (h : r.isEmpty = false) : 0 < r.length := by
  cases r with
  | nil => cases h
  | cons b r => exact Nat.succ_pos _
theorem gs_good {l : List UInt8} (h : rdBad R B l = false) : up l 1 R = dt l.tail R ∧ (gsX R B l).1 = (rdX R B l).1 ∧ (gsX R B l).2.1 = (rdX R B l).2.1 ∧
    gsY (gsX R B l).2.2 l = ((rdY R B l).1, (rdY R B l).2.1, (rdY R B l).2.2.1) := by
  unfold rdBad at h
  rw [Bool.or_eq_false_iff] at h
  obtain ⟨h1, h2⟩ := h
  have h2 : (rdY R B l).2.2.2.1 = [] := by simpa using h2
  obtain ⟨h3, h4, h5⟩ := rdM_good h1 h2
  obtain ⟨h6, h7, h8⟩ := rdV_good h3
  have h6' := h6
  unfold rdB at h6
  simp only [Bool.or_eq_false_iff, decide_eq_false_iff_not] at h6
  obtain ⟨⟨h9, h10⟩, h11⟩ := h6
  have et : l.tail = l.drop 1 := (List.drop_one).symm
  have ed : l.tail.drop ((R + 3) / 4) = l.drop (1 + (R + 3) / 4) := by rw [et, List.drop_drop]
  have hx : (gsX R B l).1 = (rdX R B l).1 ∧ (gsX R B l).2.1 = (rdX R B l).2.1 ∧ (rdX R B l).2.2.1 = l.drop (gsX R B l).2.2 := by
    have h3 : (rdX R B l).2.2.2 = false := h3
    unfold rdX rdV at h3 ⊢
    rw [ed] at h3 ⊢
    unfold gsX
    by_cases h0 : hd0 l % 2 = 0
    · rw [if_neg (by omega), if_pos h0]
      exact ⟨rfl, rfl, rfl⟩
    · rw [if_neg h0] at h3 ⊢
      simp only [Bool.or_eq_false_iff, beq_eq_false_iff_ne] at h3
      obtain ⟨⟨⟨_, b2⟩, b3⟩, b4⟩ := h3
      have b5 := isE b2
      rw [List.length_drop] at b5
      have e2 : (l.drop (1 + (R + 3) / 4)).tail = l.drop (1 + (R + 3) / 4 + 1) := by rw [← List.drop_one, List.drop_drop]
      rw [e2] at b4 ⊢
      rw [if_pos ⟨by omega, by omega⟩]
      refine ⟨rfl, up_db b4, ?_⟩
      rw [List.drop_drop]
  obtain ⟨x1, x2, x3⟩ := hx
  refine ⟨by rw [up_db (by rw [← et]; exact h11), et], x1, x2, ?_⟩
  have h1 : (rdY R B l).2.2.2.2 = false := h1
  unfold rdY rdM at h1 h2 ⊢
  rw [x3] at h1 h2 ⊢
  unfold gsY
  generalize (gsX R B l).2.2 = a at *
  by_cases h0 : hd0 l / 2 % 2 = 0
  · rw [if_neg (by omega), if_pos h0]
  · rw [if_neg h0] at h1 h2 ⊢
    split at h1
    · cases h1
    · rename_i hb
      rw [if_neg hb] at h2 ⊢
      have hb := Bool.eq_false_iff.2 hb
      simp only [Bool.or_eq_false_iff, beq_eq_false_iff_ne, decide_eq_false_iff_not] at hb
      obtain ⟨⟨⟨⟨⟨c1, c2⟩, c3⟩, c4⟩, c5⟩, c6⟩ := hb
      have e1 : (l.drop a).tail = l.drop (a + 1) := by rw [← List.drop_one, List.drop_drop]
      have e2 : (l.drop a).tail.tail = l.drop (a + 2) := by rw [e1, ← List.drop_one, List.drop_drop]
      have e3 : (l.drop a).tail.tail.tail = l.drop (a + 3) := by rw [e2, ← List.drop_one, List.drop_drop]
      have c7 := isE c5
      rw [e2, List.length_drop] at c7
      have h2 : (l.drop a).tail.tail.tail.drop (hd0 (l.drop a).tail.tail) = [] := h2
      have e : (l.drop a).tail.tail.tail.take (hd0 (l.drop a).tail.tail) = (l.drop a).tail.tail.tail := by
        have := List.take_append_drop (hd0 (l.drop a).tail.tail) (l.drop a).tail.tail.tail
        rw [h2, List.append_nil] at this
        exact this
      rw [if_pos ⟨by omega, by omega⟩, e, e3, e1]
end
end Go.Proofs.Ytbfnkdgjcpcmbaa.WireMath
