import Derived.Test.YthblnnboeikgcaaYAgreeTogether47
set_option linter.unusedVariables false
set_option linter.unusedSimpArgs false
set_option linter.unusedSectionVars false
namespace Go.Proofs.Ythblnnboeikgcaa.VecLib
open Go.RowKit Go.Proofs.Ythblnnboeikgcaa.X Go.Proofs.YthblnnboeikgcaaW.PrintWords Go.Proofs.YthblnnboeikgcaaW.PrintMore Go.Proofs.Ythblnnboeikgcaa.ConfLib Go.Proofs.Ythblnnboeikgcaa.TallyLib Go.Proofs.Ythblnnboeikgcaa.KingLib
def num (s : ByteArray) : Nat → Nat
  | 0 => 0
  | j + 1 => num s j + (bit (bt s (j : Int))).toNat * 2 ^ j
theorem num_lt (s : ByteArray) : ∀ j, num s j < 2 ^ j
  | 0 => by simp [num]
  | j + 1 => by
    have h := num_lt s j
    have hb := vec_Of_1.range (bt s (j : Int))
    have : (bit (bt s (j : Int))).toNat ≤ 1 := by show (vec_Of_1.digit _).toNat ≤ 1; omega
    have h2 : (bit (bt s (j : Int))).toNat * 2 ^ j ≤ 1 * 2 ^ j := Nat.mul_le_mul_right _ this
    rw [num, Nat.pow_succ]
    omega
theorem and_one {x : Int} (h0 : 0 ≤ x) (h1 : x ≤ 9223372036854775807) : Go.bits .and .i64 x 1 = x % 2 := by
  obtain ⟨a, rfl⟩ := Int.eq_ofNat_of_zero_le h0
  have := (bits_nat .i64 63 (by decide) (fun n h0 h1 => by rw [IntKind.wrap_i64]; omega) a 1 (by omega) (by omega)).1
  rw [Nat.and_one_is_mod] at this
  rw [show ((1 : Nat) : Int) = 1 from rfl] at this
  rw [this]
  omega
theorem set_at (b : Int) : vec_set.f b = some (bit b) := vec_Of_1.set_at b
def top (s : ByteArray) : Nat := min s.size 8
theorem ref_number_ev (s : ByteArray) : Ev (fun k => r16Number.f k s) ((num s (top s) : Nat) : Int) := by
  have key : ∀ (q i : Nat), i + q = top s → Ev (fun k => r16Number.l0 k s ((num s i : Nat) : Int) ((2 ^ i : Nat) : Int) (i : Int)) ((num s (top s) : Nat) : Int) := by
    intro q
    induction q with
    | zero =>
      intro i hi
      refine Ev.step (fun k => r16Number.l0.eq_2 ..) ?_
      by_cases h : (i : Int) < 8
      · have : ¬ (i : Int) < (s.size : Int) := by unfold top at hi; omega
        refine Ev.pos h (Ev.neg this (Ev.val ?_))
        rw [show i = top s by omega]
      · refine Ev.neg h (Ev.val ?_)
        rw [show i = top s by omega]
    | succ q ih =>
      intro i hi
      have h8 : top s ≤ 8 ∧ top s ≤ s.size := by unfold top; omega
      have hb := vec_Of_1.range (bt s (i : Int))
      have hbit : r16bit.f (bt s (i : Int)) = some (bit (bt s (i : Int))) := by
        unfold r16bit.f bit vec_Of_1.digit
        split <;> rfl
      have e : bit (bt s (i : Int)) = (((bit (bt s (i : Int))).toNat : Nat) : Int) := by show vec_Of_1.digit _ = (((vec_Of_1.digit _).toNat : Nat) : Int); omega
      have hlt : (bit (bt s (i : Int))).toNat ≤ 1 := by show (vec_Of_1.digit _).toNat ≤ 1; omega
      have hp : 2 ^ i ≤ 2 ^ 8 := Nat.pow_le_pow_right (by omega) (by omega)
      have hn := num_lt s i
      have hm : (bit (bt s (i : Int))).toNat * 2 ^ i ≤ 1 * 2 ^ i := Nat.mul_le_mul_right _ hlt
      have go := ih (i + 1) (by omega)
      refine Ev.step (fun k => r16Number.l0.eq_2 ..) (Ev.pos (by omega) (Ev.pos (by omega) (Ev.pos (by omega) (Ev.some_ hbit ?_))))
      rw [e, show ((2 ^ i : Nat) : Int) * (((bit (bt s (i : Int))).toNat : Nat) : Int) = (((bit (bt s (i : Int))).toNat * 2 ^ i : Nat) : Int) by rw [Int.natCast_mul, Int.mul_comm], ConfLib.wrap_small (n := (((bit (bt s (i : Int))).toNat * 2 ^ i : Nat) : Int)) (by omega) (by omega), ConfLib.wrap_small (n := ((num s i : Nat) : Int) + (((bit (bt s (i : Int))).toNat * 2 ^ i : Nat) : Int)) (by omega) (by omega), ConfLib.wrap_small (n := 2 * ((2 ^ i : Nat) : Int)) (by omega) (by omega), succ_w (by omega),
        show ((num s i : Nat) : Int) + (((bit (bt s (i : Int))).toNat * 2 ^ i : Nat) : Int) = ((num s (i + 1) : Nat) : Int) by rw [num, Int.natCast_add], show 2 * ((2 ^ i : Nat) : Int) = ((2 ^ (i + 1) : Nat) : Int) by rw [Nat.pow_succ]; omega]
      exact go
  refine Ev.congr (fun k => r16Number.f.eq_1 ..) ?_
  exact key (top s) 0 (by omega)
def bitsD : Int → Nat → List Int
  | _, 0 => []
  | x, w + 1 => x % 2 :: bitsD (x / 2) w
theorem bitsD_len : ∀ (w : Nat) (x : Int), (bitsD x w).length = w
  | 0, _ => rfl
  | w + 1, x => by rw [bitsD, List.length_cons, bitsD_len w]
theorem bitsD_bin : ∀ (w : Nat) (x : Int), ∀ v ∈ bitsD x w, 0 ≤ v ∧ v ≤ 1
  | 0, _, v, h => by simp [bitsD] at h
  | w + 1, x, v, h => by
    rw [bitsD, List.mem_cons] at h
    rcases h with rfl | h
    · omega
    · exact bitsD_bin w _ v h
theorem bitsD_get : ∀ (w : Nat) (x : Int) (i : Nat), i < w → (bitsD x w).getD i 0 = x / 2 ^ i % 2
  | w + 1, x, 0, _ => by simp [bitsD]
  | w + 1, x, i + 1, h => by
    have := bitsD_get w (x / 2) i (by omega)
    rw [bitsD, List.getD_cons_succ, this, Int.ediv_ediv_of_nonneg (by omega), show (2 : Int) * 2 ^ i = 2 ^ (i + 1) by rw [Int.pow_succ, Int.mul_comm]]
def wide (w : Int) : Nat := (min w 64).toNat
theorem bits_ev (x w : Int) (hx : x ≤ 9223372036854775807) : Ev (fun k => vec_Bits.f k x w) (txt (bitsD (max x 0) (wide w))) := by
  have hm : mx 0 (mn w 64) = ((wide w : Nat) : Int) := by
    unfold mx mn wide
    split <;> split <;> omega
  have hx0 : mx x 0 = max x 0 := by unfold mx; split <;> omega
  have hw : wide w ≤ 64 := by unfold wide; omega
  have key : ∀ (q i : Nat) (y : Int) (l : List Int), i + q = wide w → 0 ≤ y → y ≤ 9223372036854775807 → l.length ≤ 64 - q → Ev (fun k => vec_Bits.l0 k y l ((wide w : Nat) : Int) (i : Int)) (strOfNums (l ++ (bitsD y q).map (fun d => 48 + d))) := by
    intro q
    induction q with
    | zero =>
      intro i y l hi h0 h1 hl
      refine Ev.step (fun k => vec_Bits.l0.eq_2 ..) (Ev.neg (by omega) (Ev.val ?_))
      simp [bitsD]
    | succ q ih =>
      intro i y l hi h0 h1 hl
      have go := ih (i + 1) (y / 2) (l ++ [48 + y % 2]) (by omega) (by omega) (by omega) (by rw [List.length_append, List.length_singleton]; omega)
      refine Ev.step (fun k => vec_Bits.l0.eq_2 ..) (Ev.pos (by omega) (Ev.pos (Nat.lt_of_le_of_lt (m := 64) (by omega) (by decide)) ?_))
      rw [and_one h0 h1, ConfLib.wrap_small (n := 48 + y % 2) (by omega) (by omega), Int.emod_eq_of_lt (a := 48 + y % 2) (by omega) (by omega), succ_w (by omega)]
      rw [bitsD, List.map_cons]
      rw [List.append_assoc] at go
      exact go
  refine Ev.congr (fun k => vec_Bits.f.eq_1 ..) ?_
  rw [hm, hx0]
  refine Ev.pos (by omega) (Ev.pos (by rw [Int.toNat_natCast]; exact Nat.le_trans hw (by decide)) ?_)
  have := key (wide w) 0 (max x 0) [] (by omega) (by omega) (by omega) (by simp)
  exact this
end Go.Proofs.Ythblnnboeikgcaa.VecLib
