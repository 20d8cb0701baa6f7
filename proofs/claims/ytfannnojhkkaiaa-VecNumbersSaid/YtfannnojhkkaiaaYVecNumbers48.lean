import Derived.Test.YtfannnojhkkaiaaYVecNumbers39
import Derived.Test.YtfannnojhkkaiaaYVecNumbers47
import Derived.Test.YtfannnojhkkaiaaYVecNumbers34
set_option linter.unusedVariables false
set_option linter.unusedSimpArgs false
namespace Go.Proofs.Ytfannnojhkkaiaa.vecNumbers
open Go.RowKit Go.Proofs.Ytfannnojhkkaiaa.V Go.Proofs.YtfannnojhkkaiaaW.PrintWords Go.Proofs.Ytfannnojhkkaiaa.ConfLib Go.Proofs.Ytfannnojhkkaiaa.KingLib Go.Proofs.Ytfannnojhkkaiaa.VecLib
theorem known : Ev (fun k => bellwetherlaw16_known.f k) true := Ev.of bellwetherlaw16_known.mono (show bellwetherlaw16_known.f 1000 = some true by decide +kernel)
theorem last : Ev (fun k => (bellwetherlaw16_known.f k).bind fun t => some t) true := Ev.bind known (Ev.val rfl)
theorem back (B : List Int) (hB : ∀ v ∈ B, 0 ≤ v ∧ v ≤ 1) : vec_Values.digits (txt (vec_Of.digits (txt B))) = B := by
  have l1 : (txt B).size = B.length := txt_size B
  have l2 : (txt (vec_Of.digits (txt B))).size = B.length := by rw [txt_size, of_len, l1]
  refine List.ext_getElem (by rw [values_len, l2]) (fun j h1 h2 => ?_)
  have e : ∀ (L : List Int) (h : j < L.length), L[j] = L.getD j 0 := fun L h => by simp [List.getD_eq_getElem?_getD, h]
  have hb := hB _ (List.getElem_mem h2)
  rw [e B h2] at hb
  rw [e _ h1, e B h2, values_get _ (by omega)]
  have hbit : (vec_Of.digits (txt B)).getD j 0 = B.getD j 0 := by
    rw [of_get _ (by omega), txt_bt B h2 (by omega) (by omega)]
    show (if _ then _ else _) = _
    split <;> omega
  rw [txt_bt _ (by rw [of_len]; omega) (by omega) (by omega), hbit]
  show vec_Values_1.digit _ = _
  unfold vec_Values_1.digit
  rw [if_neg (by omega)]
  omega
theorem num_next (z : ByteArray) (j : Nat) : ((num z (j + 1) : Nat) : Int) = ((num z j : Nat) : Int) + bit (bt z (j : Int)) * ((2 ^ j : Nat) : Int) := by
  have hb := vec_Of_1.range (bt z (j : Int))
  have e : bit (bt z (j : Int)) = (((bit (bt z (j : Int))).toNat : Nat) : Int) := by show vec_Of_1.digit _ = (((vec_Of_1.digit _).toNat : Nat) : Int); omega
  rw [num, Int.natCast_add, Int.natCast_mul, ← e]
theorem bits_at (n : Int) (w i : Nat) (hi : i < w) : bit (bt (txt (bitsD n w)) (i : Int)) = n / 2 ^ i % 2 := by
  have hg := bitsD_get w n i hi
  generalize hq : n / 2 ^ i % 2 = q at hg ⊢
  have hr : 0 ≤ q ∧ q ≤ 1 := by omega
  rw [txt_bt _ (by rw [bitsD_len]; exact hi) (by omega) (by omega), hg]
  show (if _ then _ else _) = _
  split <;> omega
theorem again (n : Int) (w : Nat) (h0 : 0 ≤ n) (h1 : n ≤ 255) (hw : 8 ≤ w) : ((num (txt (bitsD n w)) 8 : Nat) : Int) = n := by
  have b0 := bits_at n w 0 (by omega)
  have b1 := bits_at n w 1 (by omega)
  have b2 := bits_at n w 2 (by omega)
  have b3 := bits_at n w 3 (by omega)
  have b4 := bits_at n w 4 (by omega)
  have b5 := bits_at n w 5 (by omega)
  have b6 := bits_at n w 6 (by omega)
  have b7 := bits_at n w 7 (by omega)
  have n0 := num_next (txt (bitsD n w)) 0
  have n1 := num_next (txt (bitsD n w)) 1
  have n2 := num_next (txt (bitsD n w)) 2
  have n3 := num_next (txt (bitsD n w)) 3
  have n4 := num_next (txt (bitsD n w)) 4
  have n5 := num_next (txt (bitsD n w)) 5
  have n6 := num_next (txt (bitsD n w)) 6
  have n7 := num_next (txt (bitsD n w)) 7
  rw [b0] at n0
  rw [b1] at n1
  rw [b2] at n2
  rw [b3] at n3
  rw [b4] at n4
  rw [b5] at n5
  rw [b6] at n6
  rw [b7] at n7
  have z0 : num (txt (bitsD n w)) 0 = 0 := rfl
  clear b0 b1 b2 b3 b4 b5 b6 b7
  simp only [Nat.reduceAdd, Nat.reducePow, Int.reducePow, Nat.zero_add] at n0 n1 n2 n3 n4 n5 n6 n7
  generalize num (txt (bitsD n w)) 0 = m0 at *
  generalize num (txt (bitsD n w)) 1 = m1 at *
  generalize num (txt (bitsD n w)) 2 = m2 at *
  generalize num (txt (bitsD n w)) 3 = m3 at *
  generalize num (txt (bitsD n w)) 4 = m4 at *
  generalize num (txt (bitsD n w)) 5 = m5 at *
  generalize num (txt (bitsD n w)) 6 = m6 at *
  generalize num (txt (bitsD n w)) 7 = m7 at *
  generalize num (txt (bitsD n w)) 8 = m8 at *
  omega
theorem pure : Pure := by
  intro z n w hz hn hw
  have hn2 := Bytes.wf64 hn
  have hw2 := Bytes.wf64 hw
  refine Ev.rounds (r := true) ?_
  refine Ev.congr (fun k => bellwetherlaw16_VecNumbers.f.eq_1 ..) ?_
  by_cases h1 : (z.size : Int) > 100
  · exact Ev.pos h1 (Ev.step (fun k => bellwetherlaw16_VecNumbers.j0.eq_2 ..) (Ev.pos rfl last))
  refine Ev.neg h1 (Ev.step (fun k => bellwetherlaw16_VecNumbers.j0.eq_2 ..) ?_)
  by_cases h2 : w > 200
  · exact Ev.pos (decide_eq_true h2) last
  refine Ev.neg (by simpa using h2) ?_
  have hlen := bitsD_len (wide w) (max n 0)
  have hwide : wide w ≤ 64 := by unfold wide; omega
  refine Ev.bind (bits_ev n w hn2.2) (Ev.bind (number_ev z) (Ev.bind (ref_number_ev z) (Ev.pos rfl (Ev.bind (ref_bits_ev n w hn2.2 hw2.2) (Ev.pos rfl ?_)))))
  refine Ev.some_ (of_at _ (by rw [txt_size]; omega)) (Ev.some_ (values_at _ (by rw [txt_size, of_len, txt_size]; omega)) ?_)
  rw [back _ (bitsD_bin _ _)]
  refine Ev.step (fun k => bellwetherlaw16_VecNumbers.j1.eq_2 ..) (Ev.neg (by simp) ?_)
  by_cases d1 : n < 0
  · exact Ev.pos d1 last
  refine Ev.neg d1 ?_
  by_cases d2 : n > 255
  · exact Ev.pos d2 last
  refine Ev.neg d2 ?_
  by_cases d3 : w < 8
  · exact Ev.pos d3 last
  refine Ev.neg d3 (Ev.bind (number_ev _) (Ev.pos ?_ last))
  rw [show max n 0 = n by omega]
  have ht : top (txt (bitsD n (wide w))) = 8 := by
    have l1 : (txt (bitsD n (wide w))).size = wide w := by rw [txt_size, bitsD_len]
    have : 8 ≤ wide w := by unfold wide; omega
    unfold top
    omega
  rw [ht]
  exact again n (wide w) (by omega) (by omega) (by unfold wide; omega)
end Go.Proofs.Ytfannnojhkkaiaa.vecNumbers
