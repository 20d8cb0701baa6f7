import Derived.Test.YtbfnkdgjcpcmbaaYWireReads50
set_option linter.unusedVariables false
set_option linter.unusedSimpArgs false
namespace Go.Proofs.Ytbfnkdgjcpcmbaa.WireLib
open Go.RowKit Go.Proofs.Ytbfnkdgjcpcmbaa.X Go.Proofs.YtbfnkdgjcpcmbaaW.PrintWords Go.Proofs.Ytbfnkdgjcpcmbaa.ConfLib Go.Proofs.Ytbfnkdgjcpcmbaa.Bytes Go.Proofs.Ytbfnkdgjcpcmbaa.WireMath Go.Proofs.Ytbfnkdgjcpcmbaa.PacketLib Go.Proofs.Ytbfnkdgjcpcmbaa.CrcLib
theorem hd0_drop (l : List UInt8) (i : Nat) : hd0 (l.drop i) = (l.getD i 0).toNat := by
  rcases Nat.lt_or_ge i l.length with h | h
  · rw [List.drop_eq_getElem_cons h, List.getD_eq_getElem?_getD, List.getElem?_eq_getElem h]
    rfl
  · rw [List.drop_of_length_le h, List.getD_eq_getElem?_getD, List.getElem?_eq_none h]
    rfl
def St (s : ByteArray) (a : Nat) (r : List UInt8) : Prop := a ≤ s.size ∧ s.data.toList.drop a = r
theorem St.len {s : ByteArray} {a : Nat} {r : List UInt8} (h : St s a r) : r.length = s.size - a := by rw [← h.2, List.length_drop, data_length]
theorem St.tail {s : ByteArray} {a : Nat} {r : List UInt8} (h : St s a r) (hr : r.isEmpty = false) : a < s.size ∧ St s (a + 1) r.tail := by
  have := isE hr
  rw [h.len] at this
  refine ⟨by omega, by omega, ?_⟩
  rw [← h.2, ← List.drop_one, List.drop_drop]
theorem and_nat {a b : Nat} (ha : a < 256) (hb : b < 256) : Go.bits .and .i64 (a : Int) (b : Int) = ((a &&& b : Nat) : Int) :=
  (bits_nat .i64 62 (by decide) (fun n h0 h1 => by rw [IntKind.wrap_i64]; omega) a b (by omega) (by omega)).1
theorem and3 {a : Nat} (ha : a < 256) : Go.bits .and .i64 (a : Int) 3 = ((a % 4 : Nat) : Int) := by
  have := and_nat ha (show 3 < 256 by decide)
  rw [show ((3 : Nat) : Int) = 3 from rfl] at this
  rw [this]
  exact congrArg _ (Nat.and_two_pow_sub_one_eq_mod a 2)
theorem get1_at (s : ByteArray) (a : Nat) (ha : a ≤ s.size) (hs : s.size ≤ 1000) {k : Nat} (hk : 20 < k) :
    num_Get.f k s (a : Int) 1 = some (if a < s.size then ((hd0 (s.data.toList.drop a) : Nat) : Int) else 0, if a < s.size then 0 else 5) := by
  obtain ⟨k, rfl⟩ : ∃ m, k = m + 7 := ⟨k - 7, by omega⟩
  unfold num_Get.f num_fits.f
  rw [if_pos (by omega)]
  simp only [Option.bind_some]
  rw [if_pos (by decide), decide_eq_false (by omega)]
  simp only [num_Get.j0]
  rw [if_neg (by decide), if_neg (by omega), ConfLib.wrap_small (by omega) (by omega)]
  simp only [num_Get.j1]
  by_cases h : a < s.size
  · rw [decide_eq_false (by omega), if_neg (by decide), if_pos h, if_pos h]
    simp only [num_Get.l0, w01, s_0, w_0 (show a ≤ 140737488351240 by omega)]
    rw [if_pos (by omega), if_pos (by omega), if_pos (by omega), if_pos (by omega), if_neg (by omega), bt_list s a h, hd0_drop]
    have b0 := (s.data.toList.getD a 0).toNat_lt
    rw [w_byte b0]
    have z := or_at (x := 0) (y := (s.data.toList.getD a 0).toNat) (i := 0) (by omega) b0 (by omega)
    rw [show ((0 : Nat) : Int) = 0 from rfl] at z ⊢
    rw [z, Nat.pow_zero, Nat.mul_one, Nat.zero_add]
  · rw [decide_eq_true (by omega), if_pos rfl, if_neg h, if_neg h]
theorem number_at {s : ByteArray} {a : Nat} {r : List UInt8} (h : St s a r) (hs : s.size ≤ 1000) (b : Bool) {k : Nat} (hk : 20 < k) :
    ∃ a', St s a' r.tail ∧ wire_reader_number.f k s a b = some (((hd0 r : Nat) : Int), s, ((a' : Nat) : Int), b || r.isEmpty) := by
  unfold wire_reader_number.f
  rw [get1_at s a h.1 hs hk, h.2]
  simp only [Option.bind_some]
  cases hr : r.isEmpty with
  | false =>
    obtain ⟨t1, t2⟩ := h.tail hr
    refine ⟨a + 1, t2, ?_⟩
    rw [if_pos t1, if_pos t1, if_pos rfl, ConfLib.wrap_small (by omega) (by omega), Bool.or_false]
    rfl
  | true =>
    have hl := h.len
    have hr : r = [] := by simpa using hr
    subst hr
    have hl : 0 = s.size - a := hl
    refine ⟨a, h, ?_⟩
    rw [if_neg (by omega), Bool.or_true]
    rfl
def nums (l : List UInt8) : List Int := l.map fun y => (y.toNat : Int)
theorem nums_str (l : List UInt8) : strOfNums (nums l) = ⟨l.toArray⟩ := Bytes.ext (by simp [strOfNums_data, nums, Function.comp_def])
theorem nums_len (l : List UInt8) : (nums l).length = l.length := List.length_map ..
theorem nums_app (l m : List UInt8) : nums (l ++ m) = nums l ++ nums m := List.map_append ..
theorem dgs_zero : ∀ m, dgs 0 m = List.replicate m 48
  | 0 => rfl
  | m + 1 => by
    simp only [dgs, List.replicate_succ, Nat.zero_mod, Nat.zero_div, Nat.add_zero, dgs_zero m]
    rfl
theorem dig_l1 {n x10 i M : Int} {s : ByteArray} {a : Int} (d : Nat) : ∀ (k : Nat) (out : List UInt8) (x j : Nat) (b : Bool), x < 256 → out.length + d ≤ 10000 → ((j + d : Nat) : Int) = M → j + d ≤ 4 → d < k →
    wire_reader_digits.l1 k n (nums out) (x : Nat) x10 i M (j : Nat) s a b = wire_reader_digits.l0 (k - d - 1) n (nums (out ++ dgs x d)) x10 (wrap64 (i + 1)) s a (b || decide (x / 4 ^ d ≠ 0)) := by
  induction d with
  | zero =>
    intro k out x j b hx ho hM hj hk
    obtain ⟨k, rfl⟩ : ∃ m, k = m + 1 := ⟨k - 1, by omega⟩
    simp only [wire_reader_digits.l1]
    rw [if_neg (by omega)]
    simp only [dgs, List.append_nil, Nat.pow_zero, Nat.div_one]
    cases b with
    | true => rw [if_pos rfl, Bool.true_or]; rfl
    | false =>
      rw [if_neg (by decide), Bool.false_or]
      have : (((x : Nat) : Int) != 0) = decide (x ≠ 0) := by
        by_cases h : x = 0
        · subst h; rfl
        · rw [decide_eq_true h]
          simp [h]
      rw [this]
      rfl
  | succ d ih =>
    intro k out x j b hx ho hM hj hk
    obtain ⟨k, rfl⟩ : ∃ m, k = m + 1 := ⟨k - 1, by omega⟩
    simp only [wire_reader_digits.l1]
    rw [if_pos (by omega), if_pos (by rw [nums_len]; omega), and3 hx]
    have e1 : (wrap64 (48 + ((x % 4 : Nat) : Int))) % 256 = ((UInt8.ofNat (48 + x % 4)).toNat : Int) := by
      rw [u8 (by omega), ConfLib.wrap_small (by omega) (by omega)]
      omega
    have e2 : ((x : Nat) : Int) / 4 = ((x / 4 : Nat) : Int) := by omega
    have e3 : nums out ++ [((UInt8.ofNat (48 + x % 4)).toNat : Int)] = nums (out ++ [UInt8.ofNat (48 + x % 4)]) := by rw [nums_app]; rfl
    rw [e1, e2, e3, ConfLib.wrap_small (n := (j : Int) + 1) (by omega) (by omega), show (j : Int) + 1 = ((j + 1 : Nat) : Int) by omega]
    rw [ih k _ (x / 4) (j + 1) b (by omega) (by rw [List.length_append]; simp only [List.length_cons, List.length_nil]; omega) (by omega) (by omega) (by omega)]
    rw [show k + 1 - (d + 1) - 1 = k - d - 1 by omega, Nat.div_div_eq_div_mul, show 4 * 4 ^ d = 4 ^ (d + 1) by rw [Nat.pow_succ, Nat.mul_comm]]
    simp only [dgs, List.append_assoc, List.cons_append, List.nil_append]
theorem dig_l0 {n : Nat} {s : ByteArray} (hs : s.size ≤ 1000) (hn : n ≤ 1000) (q : Nat) : ∀ (k : Nat) (out : List UInt8) (i a : Nat) (r : List UInt8) (b : Bool), out.length ≤ n → (n - out.length + 3) / 4 = q → i + q ≤ 1000 → St s a r → 6 * q + 30 < k →
    ∃ a', St s a' (r.drop q) ∧ wire_reader_digits.l0 k n (nums out) ((i + q : Nat) : Int) (i : Nat) s a b = some ((⟨(out ++ dt r (n - out.length)).toArray⟩ : ByteArray), s, ((a' : Nat) : Int), b || db r (n - out.length)) := by
  induction q with
  | zero =>
    intro k out i a r b ho hq hi hst hk
    obtain ⟨k, rfl⟩ : ∃ m, k = m + 1 := ⟨k - 1, by omega⟩
    refine ⟨a, hst, ?_⟩
    simp only [wire_reader_digits.l0]
    rw [if_neg (by omega), show n - out.length = 0 by omega, dt_zero, db_zero, Bool.or_false, List.append_nil, nums_str]
  | succ q ih =>
    intro k out i a r b ho hq hi hst hk
    obtain ⟨k, rfl⟩ : ∃ m, k = m + 1 := ⟨k - 1, by omega⟩
    obtain ⟨a1, s1, e1⟩ := number_at hst hs b (k := k) (by omega)
    simp only [wire_reader_digits.l0]
    rw [if_pos (by omega), e1]
    simp only [Option.bind_some]
    have eM : mn 4 (wrap64 ((n : Int) - ((nums out).length : Int))) = ((min 4 (n - out.length) : Nat) : Int) := by
      rw [nums_len, ConfLib.wrap_small (by omega) (by omega)]
      unfold mn
      split <;> omega
    have z := dig_l1 (n := n) (x10 := ((i + (q + 1) : Nat) : Int)) (i := (i : Nat)) (M := ((min 4 (n - out.length) : Nat) : Int)) (s := s) (a := (a1 : Nat)) (min 4 (n - out.length)) k out (hd0 r) 0 (b || r.isEmpty) (hd0_lt r) (by omega) (by omega) (by omega) (by omega)
    rw [show ((0 : Nat) : Int) = 0 from rfl] at z
    rw [eM, z, ConfLib.wrap_small (by omega) (by omega), show (i : Int) + 1 = ((i + 1 : Nat) : Int) by omega]
    have hol : (out ++ dgs (hd0 r) (min 4 (n - out.length))).length = out.length + min 4 (n - out.length) := by rw [List.length_append, dgs_length]
    have hnl : n - (out.length + min 4 (n - out.length)) = n - out.length - 4 := by omega
    obtain ⟨a2, s2, e2⟩ := ih (k - min 4 (n - out.length) - 1) (out ++ dgs (hd0 r) (min 4 (n - out.length))) (i + 1) a1 r.tail ((b || r.isEmpty) || decide (hd0 r / 4 ^ (min 4 (n - out.length)) ≠ 0)) (by rw [hol]; omega) (by rw [hol]; omega) (by omega) s1 (by omega)
    rw [hol, hnl] at e2
    refine ⟨a2, by rw [← List.drop_one, List.drop_drop, Nat.add_comm] at s2; exact s2, ?_⟩
    rw [show i + (q + 1) = i + 1 + q by omega, e2]
    have hn0 : n - out.length ≠ 0 := by omega
    cases r with
    | nil =>
      simp only [hd0, dt, db, List.tail_nil, dgs_zero, List.isEmpty_nil, Bool.or_true, Bool.true_or, decide_eq_true hn0, List.append_assoc]
      rw [List.replicate_append_replicate, show min 4 (n - out.length) + (n - out.length - 4) = n - out.length by omega]
    | cons c r =>
      simp only [hd0, dt, db, List.tail_cons, List.isEmpty_cons, Bool.or_false, if_neg hn0, List.append_assoc, Bool.or_assoc]
      rfl
theorem digits_rd {n : Nat} {s : ByteArray} (hs : s.size ≤ 1000) (hn : n ≤ 1000) {a : Nat} {r : List UInt8} (hst : St s a r) (b : Bool) {k : Nat} (hk : 1600 < k) :
    ∃ a', St s a' (r.drop ((n + 3) / 4)) ∧ wire_reader_digits.f k s a b n = some ((⟨(dt r n).toArray⟩ : ByteArray), s, ((a' : Nat) : Int), b || db r n) := by
  obtain ⟨a', h1, h2⟩ := dig_l0 hs hn ((n + 3) / 4) k [] 0 a r b (Nat.zero_le _) rfl (by omega) hst (by omega)
  refine ⟨a', h1, ?_⟩
  unfold wire_reader_digits.f wire_packed.f
  rw [if_pos (by omega), if_pos (by omega)]
  simp only [Option.bind_some]
  have e : wrap64 (Int.tdiv (wrap64 ((wrap64 ((n : Int) + 4)) - 1)) 4) = (((n + 3) / 4 : Nat) : Int) := by
    rw [ConfLib.wrap_small (n := (n : Int) + 4) (by omega) (by omega), ConfLib.wrap_small (n := (n : Int) + 4 - 1) (by omega) (by omega), Int.tdiv_eq_ediv_of_nonneg (by omega), ConfLib.wrap_small (by omega) (by omega)]
    omega
  rw [e]
  rw [Nat.zero_add] at h2
  exact h2
theorem text_rd {m : Nat} (hm : m < 256) {s : ByteArray} (hs : s.size ≤ 1000) {a : Nat} {r : List UInt8} (hst : St s a r) (b : Bool) :
    ∃ a', St s a' (if (b || decide (r.length < m)) = true then r else r.drop m) ∧ wire_reader_text.f s a b m = some ((⟨(if (b || decide (r.length < m)) = true then [] else r.take m).toArray⟩ : ByteArray), s, ((a' : Nat) : Int), b || decide (r.length < m)) := by
  unfold wire_reader_text.f
  have hl := hst.len
  have h1 := hst.1
  cases b with
  | true =>
    refine ⟨a, hst, ?_⟩
    rw [if_pos rfl]
    rfl
  | false =>
    rw [if_neg (show ¬ (false = true) by decide), ConfLib.wrap_small (n := (s.size : Int) - (a : Int)) (by omega) (by omega)]
    by_cases h : r.length < m
    · have q : (false || decide (r.length < m)) = true := by rw [decide_eq_true h]; rfl
      rw [q]
      refine ⟨a, hst, ?_⟩
      rw [if_pos (by omega)]
      rfl
    · have q : (false || decide (r.length < m)) = false := by rw [decide_eq_false h]; rfl
      rw [q]
      refine ⟨a + m, ⟨by omega, ?_⟩, ?_⟩
      · show s.data.toList.drop (a + m) = r.drop m
        rw [← hst.2, List.drop_drop]
      · rw [if_neg (by omega), ConfLib.wrap_small (n := (a : Int) + (m : Int)) (by omega) (by omega), ConfLib.wrap_small (by omega) (by omega), if_pos (by omega), if_pos (by omega), if_pos (by omega)]
        refine congrArg some (Prod.ext (Bytes.ext ?_) rfl)
        rw [extract_list, Bytes.ex, show ((a : Int) + (m : Int) - (m : Int)).toNat = a by omega, show ((a : Int) + (m : Int)).toNat - a = m by omega, hst.2]
        rfl
theorem and1 : ∀ t : Nat, t < 256 → (Go.bits .and .i64 (t : Int) 1 = 0 ↔ t % 2 = 0) := by
  intro t ht
  have := and_nat ht (show 1 < 256 by decide)
  rw [show ((1 : Nat) : Int) = 1 from rfl, Nat.and_one_is_mod] at this
  rw [this]
  omega
theorem and2 : ∀ t : Nat, t < 256 → (Go.bits .and .i64 (t : Int) 2 = 0 ↔ t / 2 % 2 = 0) := by decide +kernel
theorem andn : ∀ t : Nat, t < 256 → (Go.bits .andNot .i64 (t : Int) 3 != 64) = decide (t / 4 ≠ 16) := by decide +kernel
theorem beq0 (n : Nat) : (((n : Nat) : Int) == 0) = (n == 0) := by
  by_cases h : n = 0
  · subst h; rfl
  · rw [beq_eq_false_iff_ne.2 h, beq_eq_false_iff_ne.2 (by omega)]
theorem rdV_B (B t : Nat) (r : List UInt8) (bad : Bool) (h : t % 2 ≠ 0) : rdV B t r bad = (hd0 r, dt r.tail B, r.tail.drop ((B + 3) / 4), ((bad || r.isEmpty) || (hd0 r == 0)) || db r.tail B) := if_neg h
section
variable (n f d p r dr o s m fr : Int) (t : List Int)
theorem pv_rd {B : Nat} (hB : ConfLib.bits n f d p r dr o s m fr t = (B : Int)) (hB2 : B ≤ 1000) {x : ByteArray} (hx : x.size ≤ 1000) {a : Nat} {rest : List UInt8} (hst : St x a rest) (b : Bool) {tg : Nat} (ht : tg < 256) {k : Nat} (hk : 1700 < k) :
    ∃ a', St x a' (rdV B tg rest b).2.2.1 ∧ wire_packetReader_packet.pv k n f d p r dr o s m fr t (tg : Nat) x a b = some ((((rdV B tg rest b).1 : Nat) : Int), (⟨(rdV B tg rest b).2.1.toArray⟩ : ByteArray), x, ((a' : Nat) : Int), (rdV B tg rest b).2.2.2) := by
  unfold wire_packetReader_packet.pv
  by_cases h : tg % 2 = 0
  · rw [if_pos ((and1 tg ht).2 h)]
    refine ⟨a, ?_, ?_⟩
    · unfold rdV
      rw [if_pos h]
      exact hst
    · unfold rdV
      rw [if_pos h]
      rfl
  · rw [if_neg (fun q => h ((and1 tg ht).1 q)), rdV_B B tg rest b h]
    obtain ⟨a1, s1, e1⟩ := number_at hst hx b (k := k) (by omega)
    rw [e1, bits_at n f d p r dr o s m fr t (by omega), hB]
    simp only [Option.bind_some]
    obtain ⟨a2, s2, e2⟩ := digits_rd hx hB2 s1 ((b || rest.isEmpty) || (hd0 rest == 0)) (k := k) (by omega)
    rw [beq0, e2]
    exact ⟨a2, s2, rfl⟩
theorem pm_rd {x : ByteArray} (hx : x.size ≤ 1000) {a : Nat} {rest : List UInt8} (hst : St x a rest) (b : Bool) {tg : Nat} (ht : tg < 256) {k : Nat} (hk : 1700 < k) :
    ∃ a', St x a' (rdM tg rest b).2.2.2.1 ∧ wire_packetReader_packet.pm k (tg : Nat) x a b = some ((((rdM tg rest b).1 : Nat) : Int), (((rdM tg rest b).2.1 : Nat) : Int), (⟨(rdM tg rest b).2.2.1.toArray⟩ : ByteArray), x, ((a' : Nat) : Int), (rdM tg rest b).2.2.2.2) := by
  unfold wire_packetReader_packet.pm
  by_cases h : tg / 2 % 2 = 0
  · rw [if_pos ((and2 tg ht).2 h)]
    unfold rdM
    rw [if_pos h]
    exact ⟨a, hst, rfl⟩
  · rw [if_neg (fun q => h ((and2 tg ht).1 q))]
    obtain ⟨a1, s1, e1⟩ := number_at hst hx b (k := k) (by omega)
    rw [e1]
    simp only [Option.bind_some, beq0]
    obtain ⟨a2, s2, e2⟩ := number_at s1 hx ((b || rest.isEmpty) || (hd0 rest == 0)) (k := k) (by omega)
    rw [e2]
    simp only [Option.bind_some]
    obtain ⟨a3, s3, e3⟩ := number_at s2 hx (((b || rest.isEmpty) || (hd0 rest == 0)) || rest.tail.isEmpty) (k := k) (by omega)
    rw [e3]
    simp only [Option.bind_some]
    obtain ⟨a4, s4, e4⟩ := text_rd (hd0_lt rest.tail.tail) hx s3 ((((b || rest.isEmpty) || (hd0 rest == 0)) || rest.tail.isEmpty) || rest.tail.tail.isEmpty)
    rw [e4]
    simp only [Option.bind_some]
    refine ⟨a4, ?_, ?_⟩
    · unfold rdM
      rw [if_neg h]
      split at s4
      · rename_i q
        rw [if_pos q]
        exact s4
      · rename_i q
        rw [if_neg q]
        exact s4
    · unfold rdM
      rw [if_neg h]
      split
      · rename_i q
        rw [q]
      · rename_i q
        rw [Bool.eq_false_iff.2 q]
theorem packet_rd {R B : Nat} (hR : rounds n f d p r dr o s m fr t = (R : Int)) (hR2 : R ≤ 1000) (hB : ConfLib.bits n f d p r dr o s m fr t = (B : Int)) (hB2 : B ≤ 1000) {x : ByteArray} (hx : x.size ≤ 1000) {k : Nat} (hk : 1700 < k) :
    ∃ a' : Nat, wire_packetReader_packet.f k n f d p r dr o s m fr t x 0 false = some ((⟨(dt x.data.toList.tail R).toArray⟩ : ByteArray), (((rdX R B x.data.toList).1 : Nat) : Int), (⟨(rdX R B x.data.toList).2.1.toArray⟩ : ByteArray), (((rdY R B x.data.toList).1 : Nat) : Int), (((rdY R B x.data.toList).2.1 : Nat) : Int), (⟨(rdY R B x.data.toList).2.2.1.toArray⟩ : ByteArray), x, ((a' : Nat) : Int), rdBad R B x.data.toList) := by
  have s0 : St x 0 x.data.toList := ⟨Nat.zero_le _, rfl⟩
  obtain ⟨a1, s1, e1⟩ := number_at s0 hx false (k := k) (by omega)
  rw [show ((0 : Nat) : Int) = 0 from rfl] at e1
  have ht := hd0_lt x.data.toList
  unfold wire_packetReader_packet.f
  rw [e1, rounds_at n f d p r dr o s m fr t (by omega), hR]
  simp only [Option.bind_some, andn _ ht, Bool.false_or]
  obtain ⟨a2, s2, e2⟩ := digits_rd hx hR2 s1 (x.data.toList.isEmpty || decide (hd0 x.data.toList / 4 ≠ 16)) (k := k) (by omega)
  rw [e2]
  simp only [Option.bind_some]
  obtain ⟨a3, s3, e3⟩ := pv_rd n f d p r dr o s m fr t hB hB2 hx s2 (rdB R x.data.toList) ht (k := k) (by omega)
  unfold rdB at e3
  rw [e3]
  simp only [Option.bind_some]
  obtain ⟨a4, s4, e4⟩ := pm_rd (k := k) hx s3 (rdX R B x.data.toList).2.2.2 ht (by omega)
  unfold rdX rdB at e4
  rw [e4]
  simp only [Option.bind_some]
  refine ⟨a4, ?_⟩
  have hb : ((a4 : Int) != (x.size : Int)) = !(rdY R B x.data.toList).2.2.2.1.isEmpty := by
    have s5 : St x a4 (rdY R B x.data.toList).2.2.2.1 := s4
    have h5 := s5.len
    have h6 := s5.1
    generalize (rdY R B x.data.toList).2.2.2.1 = u at *
    cases u with
    | nil =>
      have h5 : 0 = x.size - a4 := h5
      rw [show a4 = x.size by omega]
      simp
    | cons c u =>
      rw [List.length_cons] at h5
      have : (a4 : Int) ≠ (x.size : Int) := by omega
      simp [this]
  rw [hb]
  rfl
end
end Go.Proofs.Ytbfnkdgjcpcmbaa.WireLib
