-- Laid by xprint.py, a program of this session, by the kit's print over contracts of our own. Lean checks it.
import Derived.Test.YtfdkmeokfmgfhaaXx0
import Derived.Test.YtfdkmeokfmgfhaaXx4
import Derived.Test.YtfdkmeokfmgfhaaXx8
import Derived.Test.YtfdkmeokfmgfhaaXx9
import Derived.Test.YtfdkmeokfmgfhaaXx10
import Derived.Test.YtfdkmeokfmgfhaaXx11
import Derived.Test.YtfdkmeokfmgfhaaXx14
import Derived.Test.YtfdkmeokfmgfhaaXx15
namespace Go.Proofs.Ytfdkmeokfmgfhaa.X
open Go.RowKit Go.Proofs.YtfdkmeokfmgfhaaW.PrintWords Go.Proofs.YtfdkmeokfmgfhaaW.PrintLast Go.Proofs.YtfdkmeokfmgfhaaW.PrintMore
attribute [local go_sem] max2_int min2_int max_two min_two max_three min_three max_four min_four   -- for this text's walks alone
set_option linter.unusedVariables false
set_option linter.unusedSimpArgs false

/-! ### bellwetherlaw12_HoldEnds: function 10 -/
-- stub
def bellwetherlaw12_HoldEnds.l0 (K : Nat) (a0_0 : Int) (a0_1 : Int) (a0_2 : Int) (a0_3 : Int) (a0_4 : Int) (a0_5 : Int) (a0_6 : Int) (a0_7 : Int) (a0_8 : Int) (a0_9 : Int) (l0_10 : List Int) (x : Int) : Nat → Int → List ByteArray → Int → Option Bool
  | 0, _, _, _ => none
  | k + 1, nn, la, i => if i < a0_2 then (hold_Take.f K a0_0 a0_1 a0_2 a0_3 a0_4 a0_5 a0_6 a0_7 a0_8 a0_9 l0_10 la).bind fun xr => if (xr.1.length : Int) = a0_0 then (if (rdOf ByteArray.empty xr.1 x).toList = ([] : List UInt8) then bellwetherlaw12_HoldEnds.l0 K a0_0 a0_1 a0_2 a0_3 a0_4 a0_5 a0_6 a0_7 a0_8 a0_9 l0_10 x k nn xr.2 (i + 1) else bellwetherlaw12_HoldEnds.l0 K a0_0 a0_1 a0_2 a0_3 a0_4 a0_5 a0_6 a0_7 a0_8 a0_9 l0_10 x k (wrap64 (nn - 1)) xr.2 (i + 1)) else some false
    else if nn = 0 then (bellwetherref12_Empty.f K a0_0 a0_1 a0_2 a0_3 a0_4 a0_5 a0_6 a0_7 a0_8 a0_9 l0_10).bind fun em => (bellwetherref12_Same.f K la em).bind fun t => if t = true then bellwetherlaw12_known.f K else some false else some false
def bellwetherlaw12_HoldEnds.f (k : Nat) (a0_0 : Int) (a0_1 : Int) (a0_2 : Int) (a0_3 : Int) (a0_4 : Int) (a0_5 : Int) (a0_6 : Int) (a0_7 : Int) (a0_8 : Int) (a0_9 : Int) (l0_10 : List Int) (l1 : List ByteArray) (a2 : Int) : Option (Bool) := if (l1.length : Int) > 100 then bellwetherlaw12_known.f k else (bellwetherref12_Fits.f k a0_0 a0_1 a0_2 a0_3 a0_4 a0_5 a0_6 a0_7 a0_8 a0_9 l0_10 l1).bind fun b => if b = true then (if a2 < 0 then bellwetherlaw12_known.f k else if a2 ≥ a0_0 then bellwetherlaw12_known.f k else if a0_2 ≤ 4 then (hold_Held.f k a0_0 a0_1 a0_2 a0_3 a0_4 a0_5 a0_6 a0_7 a0_8 a0_9 l0_10 l1 a2).bind fun nn => bellwetherlaw12_HoldEnds.l0 k a0_0 a0_1 a0_2 a0_3 a0_4 a0_5 a0_6 a0_7 a0_8 a0_9 l0_10 a2 6 nn l1 0 else none) else bellwetherlaw12_known.f k
set_option maxHeartbeats 4000000 in
set_option maxRecDepth 100000 in
theorem bellwetherlaw12_HoldEnds.calls (k : Nat) (a0_0 : Int) (a0_1 : Int) (a0_2 : Int) (a0_3 : Int) (a0_4 : Int) (a0_5 : Int) (a0_6 : Int) (a0_7 : Int) (a0_8 : Int) (a0_9 : Int) (A0_10 : Option Addr) (c0_10 : Nat) (l0_10 : List Int) (A1 : Option Addr) (c1 : Nat) (l1 : List ByteArray) (a2 : Int) (r : Bool) (w : World) (hr0_10 : Kd.C (Kd.int .i64) w A0_10 l0_10.length l0_10) (hc0_10 : l0_10.length ≤ c0_10) (hr1 : Kd.C Kd.string w A1 l1.length l1) (hc1 : l1.length ≤ c1) (h : bellwetherlaw12_HoldEnds.f k a0_0 a0_1 a0_2 a0_3 a0_4 a0_5 a0_6 a0_7 a0_8 a0_9 l0_10 l1 a2 = some r) (hT : Aside0 (r = true) := by first | exact ⟨rfl⟩ | assumption) :
    Calls Try.prog 10 #[.agg #[.int .i64 a0_0, .int .i64 a0_1, .int .i64 a0_2, .int .i64 a0_3, .int .i64 a0_4, .int .i64 a0_5, .int .i64 a0_6, .int .i64 a0_7, .int .i64 a0_8, .int .i64 a0_9, .slice A0_10 l0_10.length c0_10], .slice A1 l1.length c1, .int .i64 a2] w fun e w' => e = .returned (.bool r) ∧ Below w.heap.size w w' := by
  have hr := hT.out
  subst hr
  have HR := Aside0.mk hr0_10
  have HC := Aside0.mk hc0_10
  have HR1 := Aside0.mk hr1
  have HC1 := Aside0.mk hc1
  clear hr0_10 hc0_10 hr1 hc1 hT
  unfold bellwetherlaw12_HoldEnds.f at h
  by_cases d1 : (l1.length : Int) > 100
  · rw [if_pos d1] at h
    have d1b : decide (100 < (l1.length : Int)) = true := decide_eq_true d1
    have HK := Aside0.mk h
    clear h d1
    go_enter Try.func10, Try.ntmps10
    go_wp2_with (first | (go_at_call 22; (with_reducible refine (bellwetherlaw12_known.calls k true _ HK.out ⟨rfl⟩).mono ?_); rintro e' w1 ⟨rfl, hb⟩; have K1 := Aside0.mk (blk_below (blk_new w _) hb); have HB1 := Aside0.mk (below_then (below_alloc (Below.refl _ w) _) (by simp) hb); clear hb; obtain ⟨q0, q1, q2, q3, q4, q5, q6, q7, q8, q9, q10⟩ := hold_of.cells (fr := (0, 0)) K1.out))
    go_ret
    exact ⟨rfl, HB1.out⟩
  rw [if_neg d1] at h
  have d1b : decide (100 < (l1.length : Int)) = false := decide_eq_false d1
  obtain ⟨b, hf, h⟩ := Option.bind_eq_some_iff.mp h
  have HF := Aside0.mk hf
  clear hf
  by_cases d2 : b = true
  · subst d2
    rw [if_pos rfl] at h
    by_cases d3 : a2 < 0
    · rw [if_pos d3] at h
      have d3b : decide (a2 < 0) = true := decide_eq_true d3
      have HK := Aside0.mk h
      clear h d3 d1
      go_enter Try.func10, Try.ntmps10
      go_wp2_with (first | (go_at_call 32; (with_reducible refine (bellwetherref12_Fits.calls k a0_0 a0_1 a0_2 a0_3 a0_4 a0_5 a0_6 a0_7 a0_8 a0_9 _ _ l0_10 _ _ l1 true _ ?side1 ?side2 ?side3 ?side4 HF.out).mono ?_); (case side1 => exact Kd.C_alloc HR.out _); (case side2 => exact HC.out); (case side3 => exact Kd.C_alloc HR1.out _); (case side4 => exact HC1.out); rintro e' w1 ⟨rfl, hb⟩; have K1 := Aside0.mk (blk_below (blk_new w _) hb); have HB1 := Aside0.mk (below_then (below_alloc (Below.refl _ w) _) (by simp) hb); clear hb; obtain ⟨q0, q1, q2, q3, q4, q5, q6, q7, q8, q9, q10⟩ := hold_of.cells (fr := (0, 0)) K1.out) | (go_at_call 22; (with_reducible refine (bellwetherlaw12_known.calls k true _ HK.out ⟨rfl⟩).mono ?_); rintro e' w2 ⟨rfl, hb⟩; have K2 := Aside0.mk (blk_below K1.out hb); have HB2 := Aside0.mk (below_then HB1.out HB1.out.size hb); clear hb; clear q0 q1 q2 q3 q4 q5 q6 q7 q8 q9 q10; obtain ⟨q0, q1, q2, q3, q4, q5, q6, q7, q8, q9, q10⟩ := hold_of.cells (fr := (0, 0)) K2.out))
      go_ret
      exact ⟨rfl, HB2.out⟩
    rw [if_neg d3] at h
    have d3b : decide (a2 < 0) = false := decide_eq_false d3
    by_cases d4 : a2 ≥ a0_0
    · rw [if_pos d4] at h
      have d4b : decide (a0_0 ≤ a2) = true := decide_eq_true d4
      have HK := Aside0.mk h
      clear h d4 d3 d1
      go_enter Try.func10, Try.ntmps10
      go_wp2_with (first | (go_at_call 32; (with_reducible refine (bellwetherref12_Fits.calls k a0_0 a0_1 a0_2 a0_3 a0_4 a0_5 a0_6 a0_7 a0_8 a0_9 _ _ l0_10 _ _ l1 true _ ?side1 ?side2 ?side3 ?side4 HF.out).mono ?_); (case side1 => exact Kd.C_alloc HR.out _); (case side2 => exact HC.out); (case side3 => exact Kd.C_alloc HR1.out _); (case side4 => exact HC1.out); rintro e' w1 ⟨rfl, hb⟩; have K1 := Aside0.mk (blk_below (blk_new w _) hb); have HB1 := Aside0.mk (below_then (below_alloc (Below.refl _ w) _) (by simp) hb); clear hb; obtain ⟨q0, q1, q2, q3, q4, q5, q6, q7, q8, q9, q10⟩ := hold_of.cells (fr := (0, 0)) K1.out) | (go_at_call 22; (with_reducible refine (bellwetherlaw12_known.calls k true _ HK.out ⟨rfl⟩).mono ?_); rintro e' w2 ⟨rfl, hb⟩; have K2 := Aside0.mk (blk_below K1.out hb); have HB2 := Aside0.mk (below_then HB1.out HB1.out.size hb); clear hb; clear q0 q1 q2 q3 q4 q5 q6 q7 q8 q9 q10; obtain ⟨q0, q1, q2, q3, q4, q5, q6, q7, q8, q9, q10⟩ := hold_of.cells (fr := (0, 0)) K2.out))
      go_ret
      exact ⟨rfl, HB2.out⟩
    rw [if_neg d4] at h
    have d4b : decide (a0_0 ≤ a2) = false := decide_eq_false d4
    by_cases d5 : a0_2 ≤ 4
    · rw [if_pos d5] at h
      obtain ⟨nn, hh, h⟩ := Option.bind_eq_some_iff.mp h
      have HH := Aside0.mk hh
      have HL := Aside0.mk h
      clear hh h
      go_enter Try.func10, Try.ntmps10
      go_wp2_with (first | (go_at_call 32; (with_reducible refine (bellwetherref12_Fits.calls k a0_0 a0_1 a0_2 a0_3 a0_4 a0_5 a0_6 a0_7 a0_8 a0_9 _ _ l0_10 _ _ l1 true _ ?side1 ?side2 ?side3 ?side4 HF.out).mono ?_); (case side1 => exact Kd.C_alloc HR.out _); (case side2 => exact HC.out); (case side3 => exact Kd.C_alloc HR1.out _); (case side4 => exact HC1.out); rintro e' w1 ⟨rfl, hb⟩; have K1 := Aside0.mk (blk_below (blk_new w _) hb); have HB1 := Aside0.mk (below_then (below_alloc (Below.refl _ w) _) (by simp) hb); clear hb; obtain ⟨q0, q1, q2, q3, q4, q5, q6, q7, q8, q9, q10⟩ := hold_of.cells (fr := (0, 0)) K1.out) | (go_at_call 30; (with_reducible refine (hold_Held.calls k a0_0 a0_1 a0_2 a0_3 a0_4 a0_5 a0_6 a0_7 a0_8 a0_9 _ _ l0_10 _ _ l1 a2 nn _ ?side1 ?side2 ?side3 ?side4 HH.out).mono ?_); (case side1 => exact Kd.C_below HR.out HB1.out); (case side2 => exact HC.out); (case side3 => exact Kd.C_below HR1.out HB1.out); (case side4 => exact HC1.out); rintro e' w2 ⟨rfl, hb⟩; have K2 := Aside0.mk (blk_below K1.out hb); have HB2 := Aside0.mk (below_then HB1.out HB1.out.size hb); clear hb; clear q0 q1 q2 q3 q4 q5 q6 q7 q8 q9 q10; obtain ⟨q0, q1, q2, q3, q4, q5, q6, q7, q8, q9, q10⟩ := hold_of.cells (fr := (0, 0)) K2.out))
      clear q0 q1 q2 q3 q4 q5 q6 q7 q8 q9 q10
      go_loopw [7, 8, 9] (fun vn va vi wr => ∃ (nn : Int) (la : List ByteArray) (A : Option Addr) (ca kq : Nat) (i : Int), vn = .int .i64 nn ∧ va = .slice A la.length ca ∧ vi = .int .i64 i ∧ 0 ≤ i ∧ i ≤ 4 ∧ Aside0 (i ≤ a0_2 ∨ i = 0) ∧ Aside0 (bellwetherlaw12_HoldEnds.l0 k a0_0 a0_1 a0_2 a0_3 a0_4 a0_5 a0_6 a0_7 a0_8 a0_9 l0_10 a2 kq nn la i = some true) ∧ Aside0 (Kd.C Kd.string wr A la.length la) ∧ Aside0 (la.length ≤ ca) ∧ Aside0 (wr.heap[w.heap.size]? = some (.cells #[.int .i64 a0_0, .int .i64 a0_1, .int .i64 a0_2, .int .i64 a0_3, .int .i64 a0_4, .int .i64 a0_5, .int .i64 a0_6, .int .i64 a0_7, .int .i64 a0_8, .int .i64 a0_9, .slice A0_10 l0_10.length c0_10] 24 (0, 0))) ∧ Aside0 (Below w.heap.size w wr)) (fun _ _ i _ => (a0_2 - intOf i).toNat)
      case atStart => exact ⟨nn, l1, _, _, 6, 0, rfl, rfl, rfl, by omega, by omega, ⟨Or.inr rfl⟩, HL, ⟨Kd.C_below HR1.out HB2.out⟩, HC1, K2, HB2⟩
      case round =>
        obtain ⟨nn', la, A, ca, kq, i, rfl, rfl, rfl, i0, i4, HI, HJ, HCA, HCL, KJ, HBJ⟩ := hrel
        obtain ⟨q0, q1, q2, q3, q4, q5, q6, q7, q8, q9, q10⟩ := hold_of.cells (fr := (0, 0)) KJ.out
        cases kq with
        | zero => exact absurd HJ.out (by simp [bellwetherlaw12_HoldEnds.l0])
        | succ kq =>
          have h := HJ.out
          clear HJ
          simp only [bellwetherlaw12_HoldEnds.l0] at h
          by_cases c1 : i < a0_2
          · rw [if_pos c1] at h
            have c1b : decide (i < a0_2) = true := decide_eq_true c1
            obtain ⟨⟨x1, x2⟩, ht, h⟩ := Option.bind_eq_some_iff.mp h
            have HTK := Aside0.mk ht
            clear ht
            by_cases c2 : (x1.length : Int) = a0_0
            · rw [if_pos c2] at h
              have c2b : ((x1.length : Int) != a0_0) = false := by simpa using c2
              have HD := Aside0.mk (show a2 < (x1.length : Int) by omega)
              have HD0 := Aside0.mk (show 0 ≤ a2 by omega)
              have HI2 := Aside0.mk (show i + 1 ≤ a0_2 by omega)
              have i5 : i + 1 ≤ 4 := by omega
              generalize hq : rdOf ByteArray.empty x1 a2 = q at h
              have HQ := Aside0.mk hq
              have c3 : 0 ≤ a2 := by omega
              have c4 : a2 < (x1.length : Int) := by omega
              clear hq c2 d3 d4
              by_cases d6 : q.toList = []
              · rw [if_pos d6] at h
                have HJ := Aside0.mk h
                have d6b : q.toList.isEmpty = true := by rw [d6]; rfl
                have d6c : (!q.toList.isEmpty) = false := by rw [d6]; rfl
                clear h d6
                go_wp2_with (go_at_call 28; (with_reducible refine (hold_Take.calls k a0_0 a0_1 a0_2 a0_3 a0_4 a0_5 a0_6 a0_7 a0_8 a0_9 _ _ l0_10 _ _ la x1 x2 _ ?side1 ?side2 ?side3 ?side4 HTK.out).mono ?_); (case side1 => exact Kd.C_below HR.out HBJ.out); (case side2 => exact HC.out); (case side3 => exact HCA.out); (case side4 => exact HCL.out); rintro e' w3 ⟨v0, v1, rfl, ho0, ho1, hb⟩; obtain ⟨Ax, cx, rfl, hcx, hrx⟩ := Kd.R_reads ho0; obtain ⟨Ar, cr, rfl, hcr, hrr⟩ := Kd.R_reads ho1; obtain ⟨ad, e0, hx⟩ := Kd.at_string hrx a2 HD0.out HD.out; subst e0; rw [HQ.out] at hx; have HRR := Aside0.mk hrr; have HRC := Aside0.mk hcr; clear ho0 ho1 hrx hcx hrr hcr; have K3 := Aside0.mk (blk_below KJ.out hb); have HB3 := Aside0.mk (below_step HBJ.out hb); clear hb; clear q0 q1 q2 q3 q4 q5 q6 q7 q8 q9 q10; obtain ⟨q0, q1, q2, q3, q4, q5, q6, q7, q8, q9, q10⟩ := hold_of.cells (fr := (0, 0)) K3.out)
                go_roundw
                case rel => exact ⟨_, x2, Ar, cr, kq, i + 1, rfl, rfl, rfl, by omega, i5, ⟨Or.inl HI2.out⟩, HJ, HRR, HRC, K3, HB3⟩
                case measure => simp [intOf]; omega
              · rw [if_neg d6] at h
                have HJ := Aside0.mk h
                have d6b : q.toList.isEmpty = false := by cases hq : q.toList with | nil => exact absurd hq d6 | cons _ _ => rfl
                have d6c : (!q.toList.isEmpty) = true := by rw [d6b]; rfl
                clear h d6
                go_wp2_with (go_at_call 28; (with_reducible refine (hold_Take.calls k a0_0 a0_1 a0_2 a0_3 a0_4 a0_5 a0_6 a0_7 a0_8 a0_9 _ _ l0_10 _ _ la x1 x2 _ ?side1 ?side2 ?side3 ?side4 HTK.out).mono ?_); (case side1 => exact Kd.C_below HR.out HBJ.out); (case side2 => exact HC.out); (case side3 => exact HCA.out); (case side4 => exact HCL.out); rintro e' w3 ⟨v0, v1, rfl, ho0, ho1, hb⟩; obtain ⟨Ax, cx, rfl, hcx, hrx⟩ := Kd.R_reads ho0; obtain ⟨Ar, cr, rfl, hcr, hrr⟩ := Kd.R_reads ho1; obtain ⟨ad, e0, hx⟩ := Kd.at_string hrx a2 HD0.out HD.out; subst e0; rw [HQ.out] at hx; have HRR := Aside0.mk hrr; have HRC := Aside0.mk hcr; clear ho0 ho1 hrx hcx hrr hcr; have K3 := Aside0.mk (blk_below KJ.out hb); have HB3 := Aside0.mk (below_step HBJ.out hb); clear hb; clear q0 q1 q2 q3 q4 q5 q6 q7 q8 q9 q10; obtain ⟨q0, q1, q2, q3, q4, q5, q6, q7, q8, q9, q10⟩ := hold_of.cells (fr := (0, 0)) K3.out)
                go_roundw
                case rel => exact ⟨_, x2, Ar, cr, kq, i + 1, rfl, rfl, rfl, by omega, i5, ⟨Or.inl HI2.out⟩, HJ, HRR, HRC, K3, HB3⟩
                case measure => simp [intOf]; omega
            · rw [if_neg c2] at h
              cases h
          · rw [if_neg c1] at h
            have c1b : decide (i < a0_2) = false := decide_eq_false c1
            by_cases c2 : nn' = 0
            · rw [if_pos c2] at h
              subst c2
              obtain ⟨em, hem, h⟩ := Option.bind_eq_some_iff.mp h
              obtain ⟨t, hs, h⟩ := Option.bind_eq_some_iff.mp h
              by_cases c3 : t = true
              · subst c3
                rw [if_pos rfl] at h
                have HEM := Aside0.mk hem
                have HSM := Aside0.mk hs
                have HK := Aside0.mk h
                clear hem hs h c1
                go_wp2_with (first | (go_at_call 27; (with_reducible refine (bellwetherref12_Empty.calls k a0_0 a0_1 a0_2 a0_3 a0_4 a0_5 a0_6 a0_7 a0_8 a0_9 _ _ l0_10 em _ ?side1 ?side2 HEM.out).mono ?_); (case side1 => exact Kd.C_below HR.out HBJ.out); (case side2 => exact HC.out); rintro e' w4 ⟨v0, rfl, ho0, hb⟩; obtain ⟨Ae, ce, rfl, hce, hre⟩ := Kd.R_reads ho0; have HRE := Aside0.mk hre; have HCE := Aside0.mk hce; have HCA4 := Aside0.mk (Kd.C_below HCA.out hb); have HB4 := Aside0.mk (below_step HBJ.out hb); clear ho0 hre hce hb) | (go_at_call 25; (with_reducible refine (bellwetherref12_Same.calls k _ _ la _ _ em true _ ?side1 ?side2 ?side3 ?side4 HSM.out).mono ?_); (case side1 => exact HCA4.out); (case side2 => exact HCL.out); (case side3 => exact HRE.out); (case side4 => exact HCE.out); rintro e' wd ⟨rfl, ⟨nd, rfl⟩⟩) | (go_at_call 22; (with_reducible refine (bellwetherlaw12_known.calls k true _ HK.out ⟨rfl⟩).mono ?_); rintro e' w5 ⟨rfl, hb⟩; have HB5 := Aside0.mk (below_step (pw_below_drewN HB4.out nd) hb); clear hb))
                go_ret
                exact ⟨rfl, HB5.out⟩
              · rw [if_neg c3] at h
                cases h
            · rw [if_neg c2] at h
              cases h
    · rw [if_neg d5] at h
      cases h
  · obtain rfl : b = false := by simpa using d2
    rw [if_neg d2] at h
    have HK := Aside0.mk h
    clear h d2 d1
    go_enter Try.func10, Try.ntmps10
    go_wp2_with (first | (go_at_call 32; (with_reducible refine (bellwetherref12_Fits.calls k a0_0 a0_1 a0_2 a0_3 a0_4 a0_5 a0_6 a0_7 a0_8 a0_9 _ _ l0_10 _ _ l1 false _ ?side1 ?side2 ?side3 ?side4 HF.out).mono ?_); (case side1 => exact Kd.C_alloc HR.out _); (case side2 => exact HC.out); (case side3 => exact Kd.C_alloc HR1.out _); (case side4 => exact HC1.out); rintro e' w1 ⟨rfl, hb⟩; have K1 := Aside0.mk (blk_below (blk_new w _) hb); have HB1 := Aside0.mk (below_then (below_alloc (Below.refl _ w) _) (by simp) hb); clear hb; obtain ⟨q0, q1, q2, q3, q4, q5, q6, q7, q8, q9, q10⟩ := hold_of.cells (fr := (0, 0)) K1.out) | (go_at_call 22; (with_reducible refine (bellwetherlaw12_known.calls k true _ HK.out ⟨rfl⟩).mono ?_); rintro e' w2 ⟨rfl, hb⟩; have K2 := Aside0.mk (blk_below K1.out hb); have HB2 := Aside0.mk (below_then HB1.out HB1.out.size hb); clear hb; clear q0 q1 q2 q3 q4 q5 q6 q7 q8 q9 q10; obtain ⟨q0, q1, q2, q3, q4, q5, q6, q7, q8, q9, q10⟩ := hold_of.cells (fr := (0, 0)) K2.out))
    go_ret
    exact ⟨rfl, HB2.out⟩

end Go.Proofs.Ytfdkmeokfmgfhaa.X
