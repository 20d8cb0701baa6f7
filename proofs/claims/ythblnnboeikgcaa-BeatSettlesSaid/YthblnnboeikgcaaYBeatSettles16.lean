import Derived.Test.YthblnnboeikgcaaYBeatSettles14
import Derived.Test.YthblnnboeikgcaaYBeatSettles15
import Derived.Laws.MakeOwn
import Derived.Laws.Strings
import Derived.Laws.BytesArg
import Derived.WideShapes
set_option maxHeartbeats 4000000
set_option maxRecDepth 100000
section
namespace Go.Proofs.Ythblnnboeikgcaa.B
open Go.RowKit Go.Proofs.YthblnnboeikgcaaW.PrintWords Go.Proofs.YthblnnboeikgcaaW.PrintLast Go.Proofs.YthblnnboeikgcaaW.PrintMore
attribute [local go_sem] max2_int min2_int max_two min_two max_three min_three max_four min_four   -- for this text's walks alone
set_option linter.unusedVariables false
set_option linter.unusedSimpArgs false
def pipe_Begin.f (k : Nat) (a0_0 a0_1 a0_2 a0_3 a0_4 a0_5 a0_6 a0_7 a0_8 a0_9 : Int) (l0_10 : List Int) (a1 : ByteArray) (a2 : Int) : Option ByteArray := (conf_Plain.f k a0_0 a0_1 a0_2 a0_3 a0_4 a0_5 a0_6 a0_7 a0_8 a0_9 l0_10).bind fun e => if e = 0 then (pipe_sound.f k a0_0 a0_1 a0_2 a0_3 a0_4 a0_5 a0_6 a0_7 a0_8 a0_9 l0_10 a1).bind fun r => (king_Start.f a2).bind fun b => (king_Code.f b.1 b.2).bind fun c => if 0 < r.size ∧ r.size ≤ 1000000 ∧ 0 ≤ c ∧ c ≤ 5 then some (pipe_sound.put r 0 (48 + c)) else none else some (⟨#[]⟩ : ByteArray)
theorem pipe_Begin.mono : ∀ a0 a1 a2 a3 a4 a5 a6 a7 a8 a9 a10 a11 a12 k, LeO (pipe_Begin.f k a0 a1 a2 a3 a4 a5 a6 a7 a8 a9 a10 a11 a12) (pipe_Begin.f (k + 1) a0 a1 a2 a3 a4 a5 a6 a7 a8 a9 a10 a11 a12) := by
  intro a0 a1 a2 a3 a4 a5 a6 a7 a8 a9 a10 a11 a12 k
  unfold pipe_Begin.f
  exact LeO.bind (conf_Plain.mono _ _ _ _ _ _ _ _ _ _ _ _) (fun _ => LeO.ite (LeO.bind (pipe_sound.mono _ _ _ _ _ _ _ _ _ _ _ _ _) (fun _ => LeO.refl _)) (LeO.refl _))
theorem pipe_Begin.calls (k : Nat) (a0_0 a0_1 a0_2 a0_3 a0_4 a0_5 a0_6 a0_7 a0_8 a0_9 : Int) (A0_10 : Option Addr) (c0_10 : Nat) (l0_10 : List Int) (a1 : ByteArray) (a2 : Int) (z : ByteArray) (w : World) (hr0_10 : Kd.C (Kd.int .i64) w A0_10 l0_10.length l0_10) (hc0_10 : l0_10.length ≤ c0_10) (h : pipe_Begin.f k a0_0 a0_1 a0_2 a0_3 a0_4 a0_5 a0_6 a0_7 a0_8 a0_9 l0_10 a1 a2 = some z) :
    Calls Try.prog 33 #[.agg #[.int .i64 a0_0, .int .i64 a0_1, .int .i64 a0_2, .int .i64 a0_3, .int .i64 a0_4, .int .i64 a0_5, .int .i64 a0_6, .int .i64 a0_7, .int .i64 a0_8, .int .i64 a0_9, .slice A0_10 l0_10.length c0_10], .string a1, .int .i64 a2] w fun e w' => e = .returned (.string z) ∧ Below w.heap.size w w' := by
  have HR := Sd.mk hr0_10
  have HC := Sd.mk hc0_10
  clear hr0_10 hc0_10
  unfold pipe_Begin.f at h
  obtain ⟨e, he, h⟩ := Option.bind_eq_some_iff.mp h
  have HP := Sd.mk he
  clear he
  by_cases d1 : e = 0
  · subst d1
    rw [if_pos rfl] at h
    obtain ⟨r, hr, h⟩ := Option.bind_eq_some_iff.mp h
    obtain ⟨⟨b0, b1⟩, hb, h⟩ := Option.bind_eq_some_iff.mp h
    obtain ⟨c, hc, h⟩ := Option.bind_eq_some_iff.mp h
    have HSN := Sd.mk hr
    have HST := Sd.mk hb
    have HCD := Sd.mk hc
    clear hr hb hc
    by_cases d2 : 0 < r.size ∧ r.size ≤ 1000000 ∧ 0 ≤ c ∧ c ≤ 5
    · rw [if_pos d2] at h
      obtain rfl := Option.some.inj h
      obtain ⟨hlt, hsz, hc0, hc5⟩ := d2
      have HLT := Sd.mk hlt
      have HSZ := Sd.mk hsz
      have p0 : decide ((0 : Int) < (r.size : Int)) = true := decide_eq_true (by omega)
      have p1 : ((0 : Int) < (r.size : Int)) = True := eq_true (by omega)
      have p2 : (0 < r.size) = True := eq_true (by omega)
      have p3 : decide (0 < r.size) = true := decide_eq_true (by omega)
      have hw1 : wrap64 (48 + c) = 48 + c := by simp only [wrap64]; omega
      have hw2 : IntKind.u8.wrap (48 + c) = 48 + c := by simp [IntKind.wrap, IntKind.bits, IntKind.signed]; omega
      clear h hlt hsz hc0 hc5
      go_enter Try.func33, Try.ntmps33
      go_wp2_with (first | (go_at_call 59; (with_reducible refine (conf_Plain.calls k a0_0 a0_1 a0_2 a0_3 a0_4 a0_5 a0_6 a0_7 a0_8 a0_9 _ _ l0_10 0 _ ?side1 ?side2 HP.out).mono ?_); (case side1 => exact Kd.C_alloc HR.out _); (case side2 => exact HC.out); rintro e' w1 ⟨rfl, hb⟩; have K1 := Sd.mk (blk_below (blk_new w _) hb); have HB1 := Sd.mk (below_then (below_alloc (Below.refl _ w) _) (by simp) hb); clear hb; have ⟨q0, q1, q2, q3, q4, q5, q6, q7, q8, q9, q10⟩ := pipe_sound.cells K1.out) | (go_at_call 84; (with_reducible refine (pipe_sound.calls k a0_0 a0_1 a0_2 a0_3 a0_4 a0_5 a0_6 a0_7 a0_8 a0_9 _ _ l0_10 a1 r _ ?side1 ?side2 HSN.out).mono ?_); (case side1 => exact Kd.C_below HR.out HB1.out); (case side2 => exact HC.out); rintro e' w2 ⟨v0, rfl, hrow, hb⟩; obtain ⟨g, cap, cs, fz, e0, hg, hcs, hfz, hcap, hat⟩ := hrow; subst e0; have KG2 := Sd.mk hcs; have HG := Sd.mk (Nat.le_trans HB1.out.size hg); have HFZ := Sd.mk hfz; have HCAP := Sd.mk hcap; have HAT := Sd.mk hat; clear hcs hg hfz hcap hat; have HB2 := Sd.mk (below_then HB1.out HB1.out.size hb); clear hb; clear q0 q1 q2 q3 q4 q5 q6 q7 q8 q9 q10) | (go_at_call 89; (with_reducible refine (king_Start.calls a2 b0 b1 _ HST.out).mono ?_); rintro e' w3 ⟨rfl, hb⟩; have KG3 := Sd.mk (blk_below KG2.out hb); have HB3 := Sd.mk (below_then HB2.out HB2.out.size hb); clear hb) | (go_at_call 88; (with_reducible refine (king_Code.calls b0 b1 c _ HCD.out).mono ?_); rintro e' w4 ⟨rfl, hb⟩; have KG4 := Sd.mk (blk_below KG3.out hb); have HB4 := Sd.mk (below_then HB3.out HB3.out.size hb); clear hb; have hx0 := pipe_sound.cell_of KG4.out HAT.out HLT.out; have hf0 := pipe_sound.frozen_of KG4.out (Nat.lt_of_lt_of_le HLT.out HFZ.out); have kcv := pipe_sound.back KG4.out HAT.out HLT.out HSZ.out (48 + c) cap))
      go_ret
      exact ⟨rfl, HB4.out.setCell (p := ⟨g, 0, none⟩) HG.out _⟩
    · rw [if_neg d2] at h
      cases h
  · rw [if_neg d1] at h
    obtain rfl := Option.some.inj h
    have d1b : (e != 0) = true := by simpa using d1
    clear h d1
    go_enter Try.func33, Try.ntmps33
    go_wp2_with (first | (go_at_call 59; (with_reducible refine (conf_Plain.calls k a0_0 a0_1 a0_2 a0_3 a0_4 a0_5 a0_6 a0_7 a0_8 a0_9 _ _ l0_10 e _ ?side1 ?side2 HP.out).mono ?_); (case side1 => exact Kd.C_alloc HR.out _); (case side2 => exact HC.out); rintro e' w1 ⟨rfl, hb⟩; have K1 := Sd.mk (blk_below (blk_new w _) hb); have HB1 := Sd.mk (below_then (below_alloc (Below.refl _ w) _) (by simp) hb); clear hb; have ⟨q0, q1, q2, q3, q4, q5, q6, q7, q8, q9, q10⟩ := pipe_sound.cells K1.out))
    go_ret
    exact ⟨rfl, HB1.out⟩
end Go.Proofs.Ythblnnboeikgcaa.B
end
section
set_option linter.unusedVariables false
set_option linter.unusedSimpArgs false
namespace Go.Proofs.Ythblnnboeikgcaa.Bytes
open Go.RowKit Go.Proofs.YthblnnboeikgcaaW.PrintWords
theorem ext {a b : ByteArray} (h : a.data.toList = b.data.toList) : a = b := ByteArray.ext (Array.toList_inj.1 h)
theorem ext_iff {a b : ByteArray} : a.toList = b.toList ↔ a = b := by
  rw [ByteArray.toList_eq, ByteArray.toList_eq]
  exact ⟨ext, fun h => by rw [h]⟩
theorem size_list (a : ByteArray) : a.size = a.data.toList.length := (data_length a).symm
theorem ex (l : List UInt8) : (⟨l.toArray⟩ : ByteArray).data.toList = l := by simp
theorem strOf_append (xs ys : List Int) : strOfNums (xs ++ ys) = strOfNums xs ++ strOfNums ys := ext (by simp [strOfNums_data, ByteArray.data_append])
theorem extract_list (a : ByteArray) (i j : Nat) : (a.extract i j).data.toList = (a.data.toList.drop i).take (j - i) := by
  rw [ByteArray.data_extract, Array.toList_extract, List.extract_eq_take_drop]
theorem wrap_small {n : Int} (h0 : -9223372036854775808 ≤ n) (h1 : n ≤ 9223372036854775807) : wrap64 n = n := by
  unfold wrap64
  omega
theorem bt_nat (s : ByteArray) (i : Nat) (h : i < s.size) : bt s (i : Int) = ((s.data.toList[i]'(by rw [data_length]; exact h)).toNat : Int) := by
  unfold bt
  simp only [Int.toNat_natCast, dif_pos h]
  rfl
theorem bt_list (s : ByteArray) (i : Nat) (h : i < s.size) : bt s (i : Int) = ((s.data.toList.getD i 0).toNat : Int) := by
  rw [bt_nat s i h, List.getD_eq_getElem?_getD, List.getElem?_eq_getElem (by rw [data_length]; exact h)]
  rfl
end Go.Proofs.Ythblnnboeikgcaa.Bytes
end
