import Derived.Test.YthblnnboeikgcaaYAgreeTells49
import Derived.Test.YthblnnboeikgcaaYAgreeTells24
import Derived.Test.YthblnnboeikgcaaYAgreeTells11
import Derived.Test.YthblnnboeikgcaaYAgreeTells37
import Derived.Test.YthblnnboeikgcaaYAgreeTells38
import Derived.Test.YthblnnboeikgcaaYAgreeTells39
set_option linter.unusedVariables false
set_option linter.unusedSimpArgs false
set_option linter.unusedSectionVars false
namespace Go.Proofs.Ythblnnboeikgcaa.VecLib
open Go.RowKit Go.Proofs.Ythblnnboeikgcaa.X Go.Proofs.YthblnnboeikgcaaW.PrintWords Go.Proofs.YthblnnboeikgcaaW.PrintMore Go.Proofs.Ythblnnboeikgcaa.ConfLib Go.Proofs.Ythblnnboeikgcaa.TallyLib Go.Proofs.Ythblnnboeikgcaa.KingLib
theorem and_one {x : Int} (h0 : 0 ≤ x) (h1 : x ≤ 9223372036854775807) : Go.bits .and .i64 x 1 = x % 2 := by
  obtain ⟨a, rfl⟩ := Int.eq_ofNat_of_zero_le h0
  have := (bits_nat .i64 63 (by decide) (fun n h0 h1 => by rw [IntKind.wrap_i64]; omega) a 1 (by omega) (by omega)).1
  rw [Nat.and_one_is_mod] at this
  rw [show ((1 : Nat) : Int) = 1 from rfl] at this
  rw [this]
  omega
theorem set_at (b : Int) : vec_set.f b = some (bit b) := vec_Of_1.set_at b
def bitsD : Int → Nat → List Int
  | _, 0 => []
  | x, w + 1 => x % 2 :: bitsD (x / 2) w
theorem bitsD_len : ∀ (w : Nat) (x : Int), (bitsD x w).length = w
  | 0, _ => rfl
  | w + 1, x => by rw [bitsD, List.length_cons, bitsD_len w]
def wide (w : Int) : Nat := (min w 64).toNat
theorem bits_ev (x w : Int) (hx : x ≤ 9223372036854775807) : Ev (fun k => vec_Bits.f k x w) (txt (bitsD (max x 0) (wide w))) := by
  have hm : mx 0 (mn w 64) = ((wide w : Nat) : Int) := by
    unfold mx mn wide
    split <;> split <;> omega
  have hx0 : mx x 0 = max x 0 := by unfold mx; split <;> omega
  have hw : wide w ≤ 64 := by unfold wide; omega
  have key : ∀ (q i : Nat) (y : Int) (l : List Int), i + q = wide w → 0 ≤ y → y ≤ 9223372036854775807 → l.length ≤ 64 - q → Ev (fun k => vec_Bits.l0 k y l ((wide w : Nat) : Int) (i : Int)) (strOfNums (l ++ (bitsD y q).map (fun d => 48 + d))) := by
    intro q
    induction q with
    | zero =>
      intro i y l hi h0 h1 hl
      refine Ev.step (fun k => vec_Bits.l0.eq_2 ..) (Ev.neg (by omega) (Ev.val ?_))
      simp [bitsD]
    | succ q ih =>
      intro i y l hi h0 h1 hl
      have go := ih (i + 1) (y / 2) (l ++ [48 + y % 2]) (by omega) (by omega) (by omega) (by rw [List.length_append, List.length_singleton]; omega)
      refine Ev.step (fun k => vec_Bits.l0.eq_2 ..) (Ev.pos (by omega) (Ev.pos (Nat.lt_of_le_of_lt (m := 64) (by omega) (by decide)) ?_))
      rw [and_one h0 h1, ConfLib.wrap_small (n := 48 + y % 2) (by omega) (by omega), Int.emod_eq_of_lt (a := 48 + y % 2) (by omega) (by omega), succ_w (by omega)]
      rw [bitsD, List.map_cons]
      rw [List.append_assoc] at go
      exact go
  refine Ev.congr (fun k => vec_Bits.f.eq_1 ..) ?_
  rw [hm, hx0]
  refine Ev.pos (by omega) (Ev.pos (by rw [Int.toNat_natCast]; exact Nat.le_trans hw (by decide)) ?_)
  have := key (wide w) 0 (max x 0) [] (by omega) (by omega) (by omega) (by simp)
  exact this
theorem ref_bits_ev (x w : Int) (hx : x ≤ 9223372036854775807) (hww : w ≤ 9223372036854775807) : Ev (fun k => bellwetherref16_Bits.f k x w) (txt (bitsD (max x 0) (wide w))) := by
  have hw : wide w ≤ 64 := by unfold wide; omega
  have key : ∀ (q i : Nat) (y : Int) (V : List Int), i + q = wide w → 0 ≤ y → y ≤ 9223372036854775807 → V.length + q ≤ 64 → Ev (fun k => bellwetherref16_Bits.l0 k y w (txt V) (i : Int)) (txt (V ++ bitsD y q)) := by
    intro q
    induction q with
    | zero =>
      intro i y V hi h0 h1 hV
      refine Ev.step (fun k => bellwetherref16_Bits.l0.eq_2 ..) ?_
      have hv : txt V = txt (V ++ bitsD y 0) := by rw [bitsD, List.append_nil]
      by_cases h : (i : Int) < w
      · exact Ev.pos h (Ev.neg (by unfold wide at hi; omega) (Ev.val hv))
      · exact Ev.neg h (Ev.val hv)
    | succ q ih =>
      intro i y V hi h0 h1 hV
      have go := ih (i + 1) (y / 2) (V ++ [y % 2]) (by omega) (by omega) (by omega) (by rw [List.length_append, List.length_singleton]; omega)
      have hsz : (txt V).size + (txt [y % 2]).size ≤ 9223372036854775807 := by
        rw [txt_size, txt_size, List.length_singleton]
        omega
      refine Ev.step (fun k => bellwetherref16_Bits.l0.eq_2 ..) (Ev.pos (by unfold wide at hi; omega) (Ev.pos (by omega) ?_))
      rw [Int.tmod_eq_emod_of_nonneg h0, Int.tdiv_eq_ediv_of_nonneg h0, ConfLib.wrap_small (n := y / 2) (by omega) (by omega), succ_w (by omega)]
      refine Ev.some_ (byte_at (by omega) (by omega)) (Ev.pos hsz ?_)
      rw [← txt_append]
      rw [List.append_assoc] at go
      exact go
  have h := key (wide w) 0 (max x 0) [] (by omega) (by omega) (by omega) (by rw [List.length_nil, Nat.zero_add]; exact hw)
  refine Ev.congr (fun k => bellwetherref16_Bits.f.eq_1 ..) ?_
  by_cases d : x < 0
  · rw [show max x 0 = 0 by omega] at h ⊢
    exact Ev.pos d (Ev.step (fun k => bellwetherref16_Bits.j0.eq_2 ..) h)
  · rw [show max x 0 = x by omega] at h ⊢
    exact Ev.neg d (Ev.step (fun k => bellwetherref16_Bits.j0.eq_2 ..) h)
end Go.Proofs.Ythblnnboeikgcaa.VecLib
