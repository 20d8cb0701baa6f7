import Derived.Test.YtbfnkdgjcpcmbaaYWireReads51
set_option maxHeartbeats 4000000
set_option linter.unusedVariables false
set_option linter.unusedSimpArgs false
namespace Go.Proofs.Ytbfnkdgjcpcmbaa.WireLib
open Go.RowKit Go.Proofs.Ytbfnkdgjcpcmbaa.X Go.Proofs.YtbfnkdgjcpcmbaaW.PrintWords Go.Proofs.Ytbfnkdgjcpcmbaa.ConfLib Go.Proofs.Ytbfnkdgjcpcmbaa.Bytes Go.Proofs.Ytbfnkdgjcpcmbaa.WireMath Go.Proofs.Ytbfnkdgjcpcmbaa.PacketLib Go.Proofs.Ytbfnkdgjcpcmbaa.CrcLib
theorem td4 (x : Nat) : Int.tdiv (x : Int) 4 = ((x / 4 : Nat) : Int) := by
  rw [Int.tdiv_eq_ediv_of_nonneg (by omega)]
  omega
theorem tm4 (x : Nat) : Int.tmod (x : Int) 4 = ((x % 4 : Nat) : Int) := by
  rw [Int.tmod_eq_emod_of_nonneg (by omega)]
  omega
theorem td2 (x : Nat) : Int.tdiv (x : Int) 2 = ((x / 2 : Nat) : Int) := by
  rw [Int.tdiv_eq_ediv_of_nonneg (by omega)]
  omega
theorem tm2 (x : Nat) : Int.tmod (x : Int) 2 = ((x % 2 : Nat) : Int) := by
  rw [Int.tmod_eq_emod_of_nonneg (by omega)]
  omega
theorem wn {x : Nat} (h : x ≤ 1000000) : wrap64 (x : Int) = (x : Int) := ConfLib.wrap_small (by omega) (by omega)
theorem wadd {x y : Nat} (h : x + y ≤ 1000000) : wrap64 ((x : Int) + (y : Int)) = ((x + y : Nat) : Int) := by
  rw [ConfLib.wrap_small (by omega) (by omega)]
  omega
theorem un_l1 {s : ByteArray} {a n : Int} {out : ByteArray} {i : Nat} (ho : out.size ≤ 1000) (hi : i ≤ 1000) (e : Nat) : ∀ (k x j : Nat), x < 256 → j + e = i % 4 → e < k →
    r11unpack.l1 k s a n out (i : Nat) (x : Nat) (j : Nat) = r11unpack.l0 (k - e - 1) s a n (out ++ ⟨#[UInt8.ofNat (48 + x / 4 ^ e % 4)]⟩) ((i + 1 : Nat) : Int) := by
  induction e with
  | zero =>
    intro k x j hx hj hk
    obtain ⟨k, rfl⟩ : ∃ m, k = m + 1 := ⟨k - 1, by omega⟩
    have z : ∀ (x : UInt8), (⟨#[x]⟩ : ByteArray).size = 1 := fun _ => rfl
    simp only [r11unpack.l1, tm4]
    rw [if_neg (by omega), ConfLib.wrap_small (n := 48 + ((x % 4 : Nat) : Int)) (by omega) (by omega), show 48 + ((x % 4 : Nat) : Int) = ((48 + x % 4 : Nat) : Int) by omega, byte_at]
    simp only [Option.bind_some]
    rw [z, if_pos (by omega), ConfLib.wrap_small (by omega) (by omega), Nat.pow_zero, Nat.div_one]
    rfl
  | succ e ih =>
    intro k x j hx hj hk
    obtain ⟨k, rfl⟩ : ∃ m, k = m + 1 := ⟨k - 1, by omega⟩
    simp only [r11unpack.l1, tm4, td4]
    rw [if_pos (by omega), wn (by omega), ConfLib.wrap_small (n := (j : Int) + 1) (by omega) (by omega), show (j : Int) + 1 = ((j + 1 : Nat) : Int) by omega, ih k (x / 4) (j + 1) (by omega) (by omega) (by omega), show k + 1 - (e + 1) - 1 = k - e - 1 by omega, Nat.div_div_eq_div_mul, show 4 * 4 ^ e = 4 ^ (e + 1) by rw [Nat.pow_succ, Nat.mul_comm]]
theorem take_get {l : List UInt8} {i : Nat} (h : i < l.length) : l.take (i + 1) = l.take i ++ [l.getD i 0] := by
  rw [List.take_add_one, List.getElem?_eq_getElem h, List.getD_eq_getElem?_getD, List.getElem?_eq_getElem h]
  rfl
theorem un_l0 {s : ByteArray} (hs : s.size ≤ 1000) {a n : Nat} (ha : a ≤ 1000) (hn : n ≤ 1000) (q : Nat) : ∀ (k i : Nat), i + q = n → (i = 0 ∨ a + (i - 1) / 4 < s.size) → 6 * q < k →
    r11unpack.l0 k s (a : Nat) (n : Nat) ⟨((dt (s.data.toList.drop a) n).take i).toArray⟩ (i : Nat) = some ⟨(up s.data.toList a n).toArray⟩ := by
  have hl : (s.data.toList.drop a).length = s.size - a := by rw [List.length_drop, data_length]
  induction q with
  | zero =>
    intro k i hi hv hk
    obtain ⟨k, rfl⟩ : ∃ m, k = m + 1 := ⟨k - 1, by omega⟩
    simp only [r11unpack.l0]
    rw [if_neg (by omega), List.take_of_length_le (by rw [dt_length]; omega)]
    unfold up
    rw [if_pos (by rw [hl]; omega)]
  | succ q ih =>
    intro k i hi hv hk
    obtain ⟨k, rfl⟩ : ∃ m, k = m + 1 := ⟨k - 1, by omega⟩
    simp only [r11unpack.l0, td4]
    rw [if_pos (by omega), wn (show i / 4 ≤ 1000000 by omega), wadd (by omega)]
    by_cases h : a + i / 4 < s.size
    · rw [if_neg (by omega), if_pos (by omega), if_pos (by omega), bt_list s _ h]
      have hb := (s.data.toList.getD (a + i / 4) 0).toNat_lt
      rw [wn (by omega)]
      have z := un_l1 (s := s) (a := (a : Nat)) (n := (n : Nat)) (out := ⟨((dt (s.data.toList.drop a) n).take i).toArray⟩) (i := i) (by rw [sz, List.length_take]; omega) (by omega) (i % 4) k (s.data.toList.getD (a + i / 4) 0).toNat 0 hb (by omega) (by omega)
      rw [show ((0 : Nat) : Int) = 0 from rfl] at z
      rw [z]
      have e : (⟨((dt (s.data.toList.drop a) n).take i).toArray⟩ : ByteArray) ++ ⟨#[UInt8.ofNat (48 + (s.data.toList.getD (a + i / 4) 0).toNat / 4 ^ (i % 4) % 4)]⟩ = ⟨((dt (s.data.toList.drop a) n).take (i + 1)).toArray⟩ := by
        refine Bytes.ext ?_
        rw [push_list, Bytes.ex, Bytes.ex, take_get (by rw [dt_length]; omega), dt_get _ _ _ (by omega)]
        rw [List.getD_eq_getElem?_getD (l := s.data.toList.drop a), List.getElem?_drop, ← List.getD_eq_getElem?_getD]
      rw [e]
      exact ih _ (i + 1) (by omega) (Or.inr (by rw [Nat.add_sub_cancel]; exact h)) (by omega)
    · rw [if_pos (by omega)]
      unfold up
      rw [if_neg (by rw [hl]; omega)]
theorem unpack_at {s : ByteArray} (hs : s.size ≤ 1000) {a n : Nat} (ha : a ≤ 1000) (hn : n ≤ 1000) {k : Nat} (hk : 6000 < k) : r11unpack.f k s (a : Nat) (n : Nat) = some ⟨(up s.data.toList a n).toArray⟩ := by
  unfold r11unpack.f
  have := un_l0 hs ha hn n k 0 (by omega) (Or.inl rfl) (by omega)
  rw [List.take_zero] at this
  exact this
theorem pk_w {n : Nat} (h : n ≤ 1000) : wrap64 (Int.tdiv (wrap64 ((n : Int) + 3)) 4) = (((n + 3) / 4 : Nat) : Int) := by
  rw [ConfLib.wrap_small (n := (n : Int) + 3) (by omega) (by omega), show (n : Int) + 3 = ((n + 3 : Nat) : Int) by omega, td4, wn (by omega)]
theorem hd_bt {x : ByteArray} {i : Nat} (hi : i < x.size) : wrap64 (bt x (i : Int)) = ((hd0 (x.data.toList.drop i) : Nat) : Int) := by
  rw [bt_list x i hi, hd0_drop]
  have := (x.data.toList.getD i 0).toNat_lt
  exact wn (by omega)
theorem hd_0 {x : ByteArray} (hi : 0 < x.size) : wrap64 (bt x 0) = ((hd0 x.data.toList : Nat) : Int) := by
  have := hd_bt hi
  rw [show ((0 : Nat) : Int) = 0 from rfl, List.drop_zero] at this
  exact this
theorem w_1A {R : Nat} (h : R ≤ 1000) : wrap64 (1 + (R : Int)) = ((1 + R : Nat) : Int) := by rw [ConfLib.wrap_small (by omega) (by omega)]; omega
theorem w_A1 {R : Nat} (h : R ≤ 1000) : wrap64 ((R : Int) + 1) = ((R + 1 : Nat) : Int) := by rw [ConfLib.wrap_small (by omega) (by omega)]; omega
theorem two_at {x : ByteArray} (hx : x.size ≤ 1000) (a : Nat) (ha : a ≤ 1000) (y1 : ByteArray) (y2 : Int) (y3 : ByteArray) : (if (Int.tmod (wrap64 (Int.tdiv ((hd0 x.data.toList : Nat) : Int) 2)) 2) = 1 then (if (wrap64 ((a : Int) + 2)) < (x.size : Int) then (if 0 ≤ (a : Int) then (if (a : Int) < (x.size : Int) then (if 0 ≤ (wrap64 ((a : Int) + 1)) then (if (wrap64 ((a : Int) + 1)) < (x.size : Int) then (if 0 ≤ (wrap64 ((a : Int) + 3)) then (if (wrap64 ((a : Int) + 3)) ≤ (x.size : Int) then (some (y1, y2, y3, wrap64 (bt x (a : Int)), wrap64 (bt x (wrap64 ((a : Int) + 1))), x.extract ((wrap64 ((a : Int) + 3)) : Int).toNat x.size)) else (none)) else (none)) else (none)) else (none)) else (none)) else (none)) else (some (y1, y2, y3, (0 : Int), (0 : Int), (⟨#[]⟩ : ByteArray)))) else (some (y1, y2, y3, (0 : Int), (0 : Int), (⟨#[]⟩ : ByteArray)))) = some (y1, y2, y3, (((gsY a x.data.toList).1 : Nat) : Int), (((gsY a x.data.toList).2.1 : Nat) : Int), (⟨(gsY a x.data.toList).2.2.toArray⟩ : ByteArray)) := by
  have hl : x.data.toList.length = x.size := data_length x
  have hg := hd0_lt x.data.toList
  rw [td2, wn (by omega), tm2, ConfLib.wrap_small (n := (a : Int) + 2) (by omega) (by omega), ConfLib.wrap_small (n := (a : Int) + 1) (by omega) (by omega), ConfLib.wrap_small (n := (a : Int) + 3) (by omega) (by omega)]
  unfold gsY
  rw [hl]
  by_cases h1 : hd0 x.data.toList / 2 % 2 = 1
  · rw [if_pos (by omega)]
    by_cases h2 : a + 2 < x.size
    · rw [if_pos (by omega), if_pos (by omega), if_pos (by omega), if_pos (by omega), if_pos (by omega), if_pos (by omega), if_pos (by omega), if_pos ⟨h1, h2⟩, hd_bt (i := a) (by omega), show (a : Int) + 1 = ((a + 1 : Nat) : Int) by omega, hd_bt (i := a + 1) (by omega)]
      have e : x.extract ((a : Int) + 3).toNat x.size = ⟨(x.data.toList.drop (a + 3)).toArray⟩ := by
        refine Bytes.ext ?_
        rw [drop_list, Bytes.ex, show ((a : Int) + 3).toNat = a + 3 by omega]
      rw [e]
    · rw [if_neg (by omega), if_neg (fun q => h2 q.2)]
      rfl
  · rw [if_neg (by omega), if_neg (fun q => h1 q.1)]
    rfl
section
variable (n f d p r dr o s m fr : Int) (t : List Int)
theorem guess_at {R B : Nat} (hR : rounds n f d p r dr o s m fr t = (R : Int)) (hR2 : R ≤ 100) (hB : ConfLib.bits n f d p r dr o s m fr t = (B : Int)) (hB2 : B ≤ 100) {x : ByteArray} (hx : x.size ≤ 1000) {k : Nat} (hk : 7000 < k) :
    r11guess.f k n f d p r dr o s m fr t x = some ((⟨(up x.data.toList 1 R).toArray⟩ : ByteArray), (((gsX R B x.data.toList).1 : Nat) : Int), (⟨(gsX R B x.data.toList).2.1.toArray⟩ : ByteArray), (((gsY (gsX R B x.data.toList).2.2 x.data.toList).1 : Nat) : Int), (((gsY (gsX R B x.data.toList).2.2 x.data.toList).2.1 : Nat) : Int), (⟨(gsY (gsX R B x.data.toList).2.2 x.data.toList).2.2.toArray⟩ : ByteArray)) := by
  obtain ⟨k, rfl⟩ : ∃ j, k = j + 1 := ⟨k - 1, by omega⟩
  have hl : x.data.toList.length = x.size := data_length x
  unfold r11guess.f
  by_cases h0 : x.size = 0
  · rw [if_pos (by omega)]
    have e : x.data.toList = [] := List.length_eq_zero_iff.1 (by omega)
    rw [e]
    have u : up [] 1 R = [] := by
      unfold up
      split
      · rename_i q
        have q : (R + 3) / 4 ≤ 0 := q
        rw [show R = 0 by omega]
        rfl
      · rfl
    have g : gsX R B [] = (0, [], 1 + (R + 3) / 4) := by
      unfold gsX
      rw [if_neg (by simp [hd0])]
    have g2 : gsY (gsX R B []).2.2 [] = (0, 0, []) := by
      unfold gsY
      rw [if_neg (by simp [hd0])]
    rw [u, g2, g]
    rfl
  · rw [if_neg (by omega), if_pos (by omega), ref_rounds_at n f d p r dr o s m fr t (by omega), hR]
    simp only [Option.bind_some]
    have u1 : Unit → r11unpack.f (k + 1) x 1 (R : Int) = some ⟨(up x.data.toList 1 R).toArray⟩ := fun _ => unpack_at hx (a := 1) (n := R) (by omega) (by omega) (k := k + 1) (by omega)
    have hg := hd0_lt x.data.toList
    rw [u1 ()]
    simp only [Option.bind_some]
    rw [hd_0 (by omega), pk_w (n := R) (by omega), w_1A (R := (R + 3) / 4) (by omega), tm2]
    obtain ⟨A, hA⟩ : ∃ A, A = 1 + (R + 3) / 4 := ⟨_, rfl⟩
    have hX : gsX R B x.data.toList = if hd0 x.data.toList % 2 = 1 ∧ A < x.size then (hd0 (x.data.toList.drop A), up x.data.toList (A + 1) B, A + 1 + (B + 3) / 4) else (0, [], A) := by
      unfold gsX
      rw [hl, hA]
    have hA2 : A ≤ 100 := by omega
    rw [← hA]
    clear u1 hA
    by_cases h1 : hd0 x.data.toList % 2 = 1 ∧ A < x.size
    · rw [if_pos h1] at hX
      rw [hX]
      clear hX
      rw [if_pos (by omega), decide_eq_true (by omega)]
      have ub : Unit → r11unpack.f k x ((A + 1 : Nat) : Int) (B : Int) = some ⟨(up x.data.toList (A + 1) B).toArray⟩ := fun _ => unpack_at hx (a := A + 1) (n := B) (by omega) (by omega) (k := k) (by omega)
      rw [r11guess.j0]
      rw [if_pos rfl, if_pos (by omega), if_pos (by omega), ref_bits_at n f d p r dr o s m fr t (by omega), hB]
      rw [Option.bind_some, w_A1 (R := A) (by omega), ub (), Option.bind_some, Option.bind_some]
      rw [pk_w (n := B) (by omega), wadd (x := A + 1) (y := (B + 3) / 4) (by omega), two_at hx _ (by omega), hd_bt h1.2]
    · rw [if_neg h1] at hX
      rw [hX]
      clear hX
      have e2 : ∀ g : Bool → Option (ByteArray × Int × ByteArray × Int × Int × ByteArray), (if ((hd0 x.data.toList % 2 : Nat) : Int) = 1 then g (decide ((A : Int) < (x.size : Int))) else g false) = g false := by
        intro g
        by_cases q : ((hd0 x.data.toList % 2 : Nat) : Int) = 1
        · rw [if_pos q, decide_eq_false (by omega)]
        · rw [if_neg q]
      refine (e2 (fun b => r11guess.j0 (k + 1) x ((hd0 x.data.toList : Nat) : Int) (A : Int) b n f d p r dr o s m fr t ⟨(up x.data.toList 1 R).toArray⟩ 0 (⟨#[]⟩ : ByteArray) 0 0 (⟨#[]⟩ : ByteArray))).trans ?_
      show r11guess.j0 (k + 1) x ((hd0 x.data.toList : Nat) : Int) (A : Int) false n f d p r dr o s m fr t ⟨(up x.data.toList 1 R).toArray⟩ 0 (⟨#[]⟩ : ByteArray) 0 0 (⟨#[]⟩ : ByteArray) = _
      rw [r11guess.j0]
      rw [if_neg (show ¬ (false = true) by decide), two_at hx _ (by omega)]
      rfl
end
end Go.Proofs.Ytbfnkdgjcpcmbaa.WireLib
