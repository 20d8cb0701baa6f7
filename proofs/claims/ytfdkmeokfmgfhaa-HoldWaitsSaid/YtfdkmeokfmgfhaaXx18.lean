-- Laid by xprint.py, a program of this session, by the kit's print over contracts of our own. Lean checks it.
import Derived.Test.YtfdkmeokfmgfhaaXx0
import Derived.Test.YtfdkmeokfmgfhaaXx4
import Derived.Test.YtfdkmeokfmgfhaaXx7
import Derived.Test.YtfdkmeokfmgfhaaXx8
import Derived.Test.YtfdkmeokfmgfhaaXx9
import Derived.Test.YtfdkmeokfmgfhaaXx11
import Derived.Test.YtfdkmeokfmgfhaaXx13
namespace Go.Proofs.Ytfdkmeokfmgfhaa.X
open Go.RowKit Go.Proofs.YtfdkmeokfmgfhaaW.PrintWords Go.Proofs.YtfdkmeokfmgfhaaW.PrintLast Go.Proofs.YtfdkmeokfmgfhaaW.PrintMore
attribute [local go_sem] max2_int min2_int max_two min_two max_three min_three max_four min_four   -- for this text's walks alone
set_option linter.unusedVariables false
set_option linter.unusedSimpArgs false

/-! ### bellwetherlaw12_HoldWaits: function 9 -/
-- stub
/-- What the taking with and without a frame must show. -/
def bellwetherlaw12_HoldWaits.ok (a0_0 a0_2 a2_0 : Int) (a2_2 : ByteArray) (age : Int) (x y : List ByteArray) : Prop := ∀ i : Int, 0 ≤ i → i < a0_0 → if (i : Int) = a2_0 ∧ age = a0_2 then (rdOf ByteArray.empty x i).toList = a2_2.toList ∧ (rdOf ByteArray.empty y i).toList = ([] : List UInt8) else (rdOf ByteArray.empty x i).toList = (rdOf ByteArray.empty y i).toList
open Classical in
noncomputable def bellwetherlaw12_HoldWaits.l0 (K : Nat) (a0_0 a0_1 a0_2 a0_3 a0_4 a0_5 a0_6 a0_7 a0_8 a0_9 : Int) (l0_10 : List Int) (a2_0 : Int) (a2_2 : ByteArray) : Nat → List ByteArray → List ByteArray → Int → Option Bool
  | 0, _, _, _ => none
  | k + 1, la, lb, age => if age ≤ a0_2 then (hold_Take.f K a0_0 a0_1 a0_2 a0_3 a0_4 a0_5 a0_6 a0_7 a0_8 a0_9 l0_10 la).bind fun xr => (hold_Take.f K a0_0 a0_1 a0_2 a0_3 a0_4 a0_5 a0_6 a0_7 a0_8 a0_9 l0_10 lb).bind fun ys => if (xr.1.length : Int) = a0_0 ∧ (ys.1.length : Int) = a0_0 ∧ 0 ≤ a2_0 ∧ a2_0 < a0_0 ∧ a0_0 ≤ 100 ∧ bellwetherlaw12_HoldWaits.ok a0_0 a0_2 a2_0 a2_2 age xr.1 ys.1 then bellwetherlaw12_HoldWaits.l0 K a0_0 a0_1 a0_2 a0_3 a0_4 a0_5 a0_6 a0_7 a0_8 a0_9 l0_10 a2_0 a2_2 k xr.2 ys.2 (age + 1) else some false
    else (bellwetherref12_Same.f K la lb).bind fun t => if t = true then bellwetherlaw12_known.f K else some false
noncomputable def bellwetherlaw12_HoldWaits.f (k : Nat) (a0_0 : Int) (a0_1 : Int) (a0_2 : Int) (a0_3 : Int) (a0_4 : Int) (a0_5 : Int) (a0_6 : Int) (a0_7 : Int) (a0_8 : Int) (a0_9 : Int) (l0_10 : List Int) (l1 : List ByteArray) (a2_0 : Int) (a2_1 : Int) (a2_2 : ByteArray) : Option (Bool) := if (l1.length : Int) > 100 then bellwetherlaw12_known.f k else (bellwetherref03_Plain.f k a0_0 a0_1 a0_2 a0_3 a0_4 a0_5 a0_6 a0_7 a0_8 a0_9 l0_10).bind fun e => if e = 0 then (hold_Put.f k a0_0 a0_1 a0_2 a0_3 a0_4 a0_5 a0_6 a0_7 a0_8 a0_9 l0_10 l1 a2_0 a2_1 a2_2).bind fun pe => if pe.2 = 0 then (if 1 ≤ a2_1 ∧ a2_1 ≤ a0_2 ∧ a0_2 ≤ 4 then bellwetherlaw12_HoldWaits.l0 k a0_0 a0_1 a0_2 a0_3 a0_4 a0_5 a0_6 a0_7 a0_8 a0_9 l0_10 a2_0 a2_2 6 pe.1 l1 a2_1 else none) else bellwetherlaw12_known.f k else bellwetherlaw12_known.f k
theorem bellwetherlaw12_HoldWaits.size_alloc (w : World) (o : Obj) : (w.alloc o).heap.size = w.heap.size + 1 := by simp
set_option maxHeartbeats 8000000 in
set_option maxRecDepth 100000 in
theorem bellwetherlaw12_HoldWaits.calls (k : Nat) (a0_0 : Int) (a0_1 : Int) (a0_2 : Int) (a0_3 : Int) (a0_4 : Int) (a0_5 : Int) (a0_6 : Int) (a0_7 : Int) (a0_8 : Int) (a0_9 : Int) (A0_10 : Option Addr) (c0_10 : Nat) (l0_10 : List Int) (A1 : Option Addr) (c1 : Nat) (l1 : List ByteArray) (a2_0 : Int) (a2_1 : Int) (a2_2 : ByteArray) (r : Bool) (w : World) (hr0_10 : Kd.C (Kd.int .i64) w A0_10 l0_10.length l0_10) (hc0_10 : l0_10.length ≤ c0_10) (hr1 : Kd.C Kd.string w A1 l1.length l1) (hc1 : l1.length ≤ c1) (h : bellwetherlaw12_HoldWaits.f k a0_0 a0_1 a0_2 a0_3 a0_4 a0_5 a0_6 a0_7 a0_8 a0_9 l0_10 l1 a2_0 a2_1 a2_2 = some r) (hT : Aside0 (r = true) := by first | exact ⟨rfl⟩ | assumption) :
    Calls Try.prog 9 #[.agg #[.int .i64 a0_0, .int .i64 a0_1, .int .i64 a0_2, .int .i64 a0_3, .int .i64 a0_4, .int .i64 a0_5, .int .i64 a0_6, .int .i64 a0_7, .int .i64 a0_8, .int .i64 a0_9, .slice A0_10 l0_10.length c0_10], .slice A1 l1.length c1, .agg #[.int .i64 a2_0, .int .i64 a2_1, .string a2_2]] w fun e w' => e = .returned (.bool r) ∧ Below w.heap.size w w' := by
  have size_alloc := bellwetherlaw12_HoldWaits.size_alloc
  have hr := hT.out
  subst hr
  have HR := Aside0.mk hr0_10
  have HC := Aside0.mk hc0_10
  have HR1 := Aside0.mk hr1
  have HC1 := Aside0.mk hc1
  clear hr0_10 hc0_10 hr1 hc1 hT size_alloc
  unfold bellwetherlaw12_HoldWaits.f at h
  by_cases d1 : (l1.length : Int) > 100
  · rw [if_pos d1] at h
    have d1b : decide (100 < (l1.length : Int)) = true := decide_eq_true d1
    have HK := Aside0.mk h
    clear h d1
    go_enter Try.func9, Try.ntmps9
    go_wp2_with (first | (go_at_call 22; (with_reducible refine (bellwetherlaw12_known.calls k true _ HK.out ⟨rfl⟩).mono ?_); rintro e' w1 ⟨rfl, hb⟩; have K1 := Aside0.mk (blk_below (blk_alloc (blk_new w _) _) hb); have G1 := Aside0.mk (blk_below (blk_new (w.alloc (.cells #[.int .i64 a0_0, .int .i64 a0_1, .int .i64 a0_2, .int .i64 a0_3, .int .i64 a0_4, .int .i64 a0_5, .int .i64 a0_6, .int .i64 a0_7, .int .i64 a0_8, .int .i64 a0_9, .slice A0_10 l0_10.length c0_10] 24)) (.cells #[.int .i64 a2_0, .int .i64 a2_1, .string a2_2] 47)) hb); have HB1 := Aside0.mk (below_then (below_alloc (below_alloc (Below.refl _ w) _) _) (by simp; omega) hb); clear hb; simp only [bellwetherlaw12_HoldWaits.size_alloc] at G1; obtain ⟨q0, q1, q2, q3, q4, q5, q6, q7, q8, q9, q10⟩ := hold_of.cells (fr := (0, 0)) K1.out; have p0 := (blk_cell G1.out 0).trans rfl; have p1 := (blk_cell G1.out 1).trans rfl; have p2 := (blk_cell G1.out 2).trans rfl))
    go_ret
    exact ⟨rfl, HB1.out⟩
  rw [if_neg d1] at h
  have d1b : decide (100 < (l1.length : Int)) = false := decide_eq_false d1
  obtain ⟨e, hp, h⟩ := Option.bind_eq_some_iff.mp h
  have HP := Aside0.mk hp
  clear hp d1
  by_cases d2 : e = 0
  · subst d2
    rw [if_pos rfl] at h
    obtain ⟨⟨pa, pe⟩, hpt, h⟩ := Option.bind_eq_some_iff.mp h
    have HPT := Aside0.mk hpt
    clear hpt
    by_cases d3 : pe = 0
    · subst d3
      rw [if_pos rfl] at h
      by_cases d4 : 1 ≤ a2_1 ∧ a2_1 ≤ a0_2 ∧ a0_2 ≤ 4
      · rw [if_pos d4] at h
        obtain ⟨g1, g2, g3⟩ := d4
        have HL := Aside0.mk h
        clear h
        go_enter Try.func9, Try.ntmps9
        go_wp2_with (first | (go_at_call 21; (with_reducible refine (bellwetherref03_Plain.calls k a0_0 a0_1 a0_2 a0_3 a0_4 a0_5 a0_6 a0_7 a0_8 a0_9 _ _ l0_10 0 _ ?side1 ?side2 HP.out).mono ?_); (case side1 => exact Kd.C_alloc (Kd.C_alloc HR.out _) _); (case side2 => exact HC.out); rintro e' w1 ⟨rfl, hb⟩; have K1 := Aside0.mk (blk_below (blk_alloc (blk_new w _) _) hb); have G1 := Aside0.mk (blk_below (blk_new (w.alloc (.cells #[.int .i64 a0_0, .int .i64 a0_1, .int .i64 a0_2, .int .i64 a0_3, .int .i64 a0_4, .int .i64 a0_5, .int .i64 a0_6, .int .i64 a0_7, .int .i64 a0_8, .int .i64 a0_9, .slice A0_10 l0_10.length c0_10] 24)) (.cells #[.int .i64 a2_0, .int .i64 a2_1, .string a2_2] 47)) hb); have HB1 := Aside0.mk (below_then (below_alloc (below_alloc (Below.refl _ w) _) _) (by simp; omega) hb); clear hb; simp only [bellwetherlaw12_HoldWaits.size_alloc] at G1; obtain ⟨q0, q1, q2, q3, q4, q5, q6, q7, q8, q9, q10⟩ := hold_of.cells (fr := (0, 0)) K1.out; have p0 := (blk_cell G1.out 0).trans rfl; have p1 := (blk_cell G1.out 1).trans rfl; have p2 := (blk_cell G1.out 2).trans rfl) | (go_at_call 23; (with_reducible refine (hold_Put.calls k a0_0 a0_1 a0_2 a0_3 a0_4 a0_5 a0_6 a0_7 a0_8 a0_9 _ _ l0_10 _ _ l1 a2_0 a2_1 a2_2 pa 0 _ ?side1 ?side2 ?side3 ?side4 HPT.out).mono ?_); (case side1 => exact Kd.C_below HR.out HB1.out); (case side2 => exact HC.out); (case side3 => exact Kd.C_below HR1.out HB1.out); (case side4 => exact HC1.out); rintro e' w2 ⟨v0, rfl, ho0, hb⟩; obtain ⟨Ap, cp, rfl, hcp, hrp⟩ := Kd.R_reads ho0; have HRP := Aside0.mk hrp; have HCP := Aside0.mk hcp; clear ho0 hcp hrp; have K2 := Aside0.mk (blk_below K1.out hb); have G2 := Aside0.mk (blk_below G1.out hb); have HB2 := Aside0.mk (below_step HB1.out hb); clear hb; clear q0 q1 q2 q3 q4 q5 q6 q7 q8 q9 q10 p0 p1 p2; obtain ⟨q0, q1, q2, q3, q4, q5, q6, q7, q8, q9, q10⟩ := hold_of.cells (fr := (0, 0)) K2.out; have p0 := (blk_cell G2.out 0).trans rfl; have p1 := (blk_cell G2.out 1).trans rfl; have p2 := (blk_cell G2.out 2).trans rfl))
        clear q0 q1 q2 q3 q4 q5 q6 q7 q8 q9 q10 p0 p2
        go_wp2
        clear p1
        go_loopw [7, 9, 10] (fun va vb vg wr => ∃ (la lb : List ByteArray) (A B : Option Addr) (cA cB kq : Nat) (age : Int), va = .slice A la.length cA ∧ vb = .slice B lb.length cB ∧ vg = .int .i64 age ∧ 1 ≤ age ∧ age ≤ 5 ∧ Aside0 (age ≤ a0_2 + 1) ∧ Aside0 (bellwetherlaw12_HoldWaits.l0 k a0_0 a0_1 a0_2 a0_3 a0_4 a0_5 a0_6 a0_7 a0_8 a0_9 l0_10 a2_0 a2_2 kq la lb age = some true) ∧ Aside0 (Kd.C Kd.string wr A la.length la) ∧ Aside0 (la.length ≤ cA) ∧ Aside0 (Kd.C Kd.string wr B lb.length lb) ∧ Aside0 (lb.length ≤ cB) ∧ Aside0 (wr.heap[w.heap.size]? = some (.cells #[.int .i64 a0_0, .int .i64 a0_1, .int .i64 a0_2, .int .i64 a0_3, .int .i64 a0_4, .int .i64 a0_5, .int .i64 a0_6, .int .i64 a0_7, .int .i64 a0_8, .int .i64 a0_9, .slice A0_10 l0_10.length c0_10] 24 (0, 0))) ∧ Aside0 (wr.heap[w.heap.size + 1]? = some (.cells #[.int .i64 a2_0, .int .i64 a2_1, .string a2_2] 47 (0, 0))) ∧ Aside0 (Below w.heap.size w wr)) (fun _ _ g _ => (a0_2 + 1 - intOf g).toNat)
        case atStart => exact ⟨pa, l1, _, _, _, _, 6, a2_1, rfl, rfl, rfl, g1, by omega, ⟨by omega⟩, HL, HRP, HCP, ⟨Kd.C_below HR1.out HB2.out⟩, HC1, K2, G2, HB2⟩
        case round =>
          obtain ⟨la, lb, A, B, cA, cB, kq, age, rfl, rfl, rfl, i1, i5, HI, HJ, HCA, HLA, HCB, HLB, KJ, GJ, HBJ⟩ := hrel
          obtain ⟨q0, q1, q2, q3, q4, q5, q6, q7, q8, q9, q10⟩ := hold_of.cells (fr := (0, 0)) KJ.out
          have p0 := (blk_cell GJ.out 0).trans rfl
          have p1 := (blk_cell GJ.out 1).trans rfl
          have p2 := (blk_cell GJ.out 2).trans rfl
          cases kq with
          | zero => exact absurd HJ.out (by simp [bellwetherlaw12_HoldWaits.l0])
          | succ kq =>
            have h := HJ.out
            clear HJ
            simp only [bellwetherlaw12_HoldWaits.l0] at h
            by_cases c1 : age ≤ a0_2
            · rw [if_pos c1] at h
              have c1b : decide (age ≤ a0_2) = true := decide_eq_true c1
              obtain ⟨⟨x1, x2⟩, htx, h⟩ := Option.bind_eq_some_iff.mp h
              obtain ⟨⟨y1, y2⟩, hty, h⟩ := Option.bind_eq_some_iff.mp h
              have HTX := Aside0.mk htx
              have HTY := Aside0.mk hty
              clear htx hty
              by_cases c2 : (x1.length : Int) = a0_0 ∧ (y1.length : Int) = a0_0 ∧ 0 ≤ a2_0 ∧ a2_0 < a0_0 ∧ a0_0 ≤ 100 ∧ bellwetherlaw12_HoldWaits.ok a0_0 a0_2 a2_0 a2_2 age x1 y1
              · rw [if_pos c2] at h
                obtain ⟨e1, e2, e3, e4, e5, e6⟩ := c2
                have HJ := Aside0.mk h
                have HOK := Aside0.mk e6
                have HX1 := Aside0.mk e1
                have HY1 := Aside0.mk e2
                have b1 : ((x1.length : Int) != a0_0) = false := by simpa using e1
                have b2 : ((y1.length : Int) != a0_0) = false := by simpa using e2
                have b3 : decide (a2_0 < 0) = false := decide_eq_false (by omega)
                have b4 : decide (a0_0 ≤ a2_0) = false := decide_eq_false (by omega)
                have HI2 := Aside0.mk (show age + 1 ≤ a0_2 + 1 by omega)
                clear h e6 e1 e2
                have i6 : age + 1 ≤ 5 := by omega
                have tok3 : True := trivial
                have tok4 : True := trivial
                go_wp2_with (first | (go_at_call 28; have tok_ := tok3; (with_reducible refine (hold_Take.calls k a0_0 a0_1 a0_2 a0_3 a0_4 a0_5 a0_6 a0_7 a0_8 a0_9 _ _ l0_10 _ _ la x1 x2 _ ?side1 ?side2 ?side3 ?side4 HTX.out).mono ?_); (case side1 => exact Kd.C_below HR.out HBJ.out); (case side2 => exact HC.out); (case side3 => exact HCA.out); (case side4 => exact HLA.out); rintro e' w3 ⟨v0, v1, rfl, ho0, ho1, hb⟩; obtain ⟨Axx, cxx, rfl, hcx, hrx⟩ := Kd.R_reads ho0; obtain ⟨Axr, cxr, rfl, hcr, hrr⟩ := Kd.R_reads ho1; have HXx := Aside0.mk hrx; have HXCx := Aside0.mk hcx; have HRRx := Aside0.mk hrr; have HRCx := Aside0.mk hcr; clear ho0 ho1 hrx hcx hrr hcr tok_ tok3; have HCB3 := Aside0.mk (Kd.C_below HCB.out hb); have K3 := Aside0.mk (blk_below KJ.out hb); have G3 := Aside0.mk (blk_below GJ.out hb); have HB3 := Aside0.mk (below_step HBJ.out hb); clear hb; clear q0 q1 q2 q3 q4 q5 q6 q7 q8 q9 q10 p0 p1 p2; obtain ⟨q0, q1, q2, q3, q4, q5, q6, q7, q8, q9, q10⟩ := hold_of.cells (fr := (0, 0)) K3.out; have p0 := (blk_cell G3.out 0).trans rfl; have p1 := (blk_cell G3.out 1).trans rfl; have p2 := (blk_cell G3.out 2).trans rfl) | (go_at_call 28; have tok_ := tok4; (with_reducible refine (hold_Take.calls k a0_0 a0_1 a0_2 a0_3 a0_4 a0_5 a0_6 a0_7 a0_8 a0_9 _ _ l0_10 _ _ lb y1 y2 _ ?side1 ?side2 ?side3 ?side4 HTY.out).mono ?_); (case side1 => exact Kd.C_below HR.out HB3.out); (case side2 => exact HC.out); (case side3 => exact HCB3.out); (case side4 => exact HLB.out); rintro e' w4 ⟨v0, v1, rfl, ho0, ho1, hb⟩; obtain ⟨Ayx, cyx, rfl, hcx, hrx⟩ := Kd.R_reads ho0; obtain ⟨Ayr, cyr, rfl, hcr, hrr⟩ := Kd.R_reads ho1; have HXy := Aside0.mk hrx; have HXCy := Aside0.mk hcx; have HRRy := Aside0.mk hrr; have HRCy := Aside0.mk hcr; clear ho0 ho1 hrx hcx hrr hcr tok_ tok4; have HXx4 := Aside0.mk (Kd.C_below HXx.out hb); have HRRx4 := Aside0.mk (Kd.C_below HRRx.out hb); have K4 := Aside0.mk (blk_below K3.out hb); have G4 := Aside0.mk (blk_below G3.out hb); have HB4 := Aside0.mk (below_step HB3.out hb); clear hb; clear q0 q1 q2 q3 q4 q5 q6 q7 q8 q9 q10 p0 p1 p2; obtain ⟨q0, q1, q2, q3, q4, q5, q6, q7, q8, q9, q10⟩ := hold_of.cells (fr := (0, 0)) K4.out; have p0 := (blk_cell G4.out 0).trans rfl; have p1 := (blk_cell G4.out 1).trans rfl; have p2 := (blk_cell G4.out 2).trans rfl))
                clear q0 q1 q2 q3 q4 q5 q6 q7 q8 q9 q10 p0 p1 p2 b1 b2 b3 b4 c1b
                go_loopw [15] (fun vi wq => ∃ i : Int, vi = .int .i64 i ∧ 0 ≤ i ∧ i ≤ 100 ∧ Aside0 (i ≤ a0_0) ∧ Aside0 (Below w4.heap.size w4 wq)) (fun vi _ => (a0_0 - intOf vi).toNat)
                case atStart => exact ⟨0, rfl, by omega, by omega, ⟨by omega⟩, ⟨Below.refl _ _⟩⟩
                case round =>
                  obtain ⟨i, rfl, j0, j1, HII, HBQ⟩ := hrel
                  have K5 := Aside0.mk (blk_below K4.out HBQ.out)
                  have G5 := Aside0.mk (blk_below G4.out HBQ.out)
                  have HB5 := Aside0.mk (below_step HB4.out HBQ.out)
                  have q0 : wr.cell? ⟨w.heap.size, 0, none⟩ = some (.int .i64 a0_0) := (blk_cell K5.out 0).trans rfl
                  have q2 : wr.cell? ⟨w.heap.size, 2, none⟩ = some (.int .i64 a0_2) := (blk_cell K5.out 2).trans rfl
                  have p0 : wr.cell? ⟨w.heap.size + 1, 0, none⟩ = some (.int .i64 a2_0) := (blk_cell G5.out 0).trans rfl
                  have p2 : wr.cell? ⟨w.heap.size + 1, 2, none⟩ = some (.string a2_2) := (blk_cell G5.out 2).trans rfl
                  by_cases f1 : i < a0_0
                  · have f1b : decide (i < a0_0) = true := decide_eq_true f1
                    have hkk := HOK.out i j0 f1
                    have hix : i < (x1.length : Int) := by rw [HX1.out]; exact f1
                    have hiy : i < (y1.length : Int) := by rw [HY1.out]; exact f1
                    obtain ⟨adx, ex, hxx⟩ := Kd.at_string (Kd.C_below HXx4.out HBQ.out) i j0 hix
                    obtain ⟨ady, ey, hyy⟩ := Kd.at_string (Kd.C_below HXy.out HBQ.out) i j0 hiy
                    subst ex ey
                    generalize rdOf ByteArray.empty x1 i = sx at hkk hxx
                    generalize rdOf ByteArray.empty y1 i = sy at hkk hyy
                    have HI3 := Aside0.mk (show i + 1 ≤ a0_0 by omega)
                    have j2 : i + 1 ≤ 100 := by omega
                    clear f1
                    by_cases f2 : i = a2_0 ∧ age = a0_2
                    · rw [if_pos f2] at hkk
                      obtain ⟨f3, f4⟩ := f2
                      have f3b : (i == a2_0) = true := beq_iff_eq.mpr f3
                      have f4b : (age == a0_2) = true := beq_iff_eq.mpr f4
                      have hs1 : (sx.toList == a2_2.toList) = true := by rw [hkk.1]; exact beq_self_eq_true _
                      have hs2 : (!sy.toList.isEmpty) = false := by rw [hkk.2]; rfl
                      have hs3 : sy.toList.isEmpty = true := by rw [hkk.2]; rfl
                      clear hkk f3 f4
                      go_wp2
                      go_quiet (fail)
                      go_wp2
                      go_roundw
                      case rel => exact ⟨i + 1, rfl, by omega, j2, HI3, ⟨pw_below_drewN HBQ.out _⟩⟩
                      case measure => have := HI3.out; simp [intOf]; omega
                    · rw [if_neg f2] at hkk
                      have hs1 : (sx.toList == sy.toList) = true := by rw [hkk]; exact beq_self_eq_true _
                      clear hkk
                      by_cases f3 : i = a2_0
                      · have f3b : (i == a2_0) = true := beq_iff_eq.mpr f3
                        have f4b : (age == a0_2) = false := beq_eq_false_iff_ne.mpr (fun q => f2 ⟨f3, q⟩)
                        clear f3 f2
                        go_wp2
                        go_quiet (fail)
                        go_wp2
                        go_roundw
                        case rel => exact ⟨i + 1, rfl, by omega, j2, HI3, ⟨pw_below_drewN HBQ.out _⟩⟩
                        case measure => have := HI3.out; simp [intOf]; omega
                      · have f3b : (i == a2_0) = false := beq_eq_false_iff_ne.mpr f3
                        clear f3 f2
                        go_wp2
                        go_quiet (fail)
                        go_wp2
                        go_roundw
                        case rel => exact ⟨i + 1, rfl, by omega, j2, HI3, ⟨pw_below_drewN HBQ.out _⟩⟩
                        case measure => have := HI3.out; simp [intOf]; omega
                  · have f1b : decide (i < a0_0) = false := decide_eq_false f1
                    clear f1
                    go_wp2
                    go_roundw
                    case rel => exact ⟨x2, y2, Axr, Ayr, cxr, cyr, kq, age + 1, rfl, rfl, rfl, by omega, i6, HI2, HJ, ⟨Kd.C_below HRRx4.out HBQ.out⟩, HRCx, ⟨Kd.C_below HRRy.out HBQ.out⟩, HRCy, K5, G5, HB5⟩
                    case measure => simp [intOf]; omega
              · rw [if_neg c2] at h
                cases h
            · rw [if_neg c1] at h
              have c1b : decide (age ≤ a0_2) = false := decide_eq_false c1
              obtain ⟨t, hs, h⟩ := Option.bind_eq_some_iff.mp h
              by_cases c3 : t = true
              · subst c3
                rw [if_pos rfl] at h
                have HSM := Aside0.mk hs
                have HK := Aside0.mk h
                clear hs h c1
                go_wp2_with (first | (go_at_call 25; (with_reducible refine (bellwetherref12_Same.calls k _ _ la _ _ lb true _ ?side1 ?side2 ?side3 ?side4 HSM.out).mono ?_); (case side1 => exact HCA.out); (case side2 => exact HLA.out); (case side3 => exact HCB.out); (case side4 => exact HLB.out); rintro e' wd ⟨rfl, ⟨nd, rfl⟩⟩) | (go_at_call 22; (with_reducible refine (bellwetherlaw12_known.calls k true _ HK.out ⟨rfl⟩).mono ?_); rintro e' w5 ⟨rfl, hb⟩; have HB5 := Aside0.mk (below_step (pw_below_drewN HBJ.out nd) hb); clear hb))
                go_ret
                exact ⟨rfl, HB5.out⟩
              · rw [if_neg c3] at h
                cases h
      · rw [if_neg d4] at h
        cases h
    · rw [if_neg d3] at h
      have d3b : (pe != 0) = true := by simpa using d3
      have HK := Aside0.mk h
      clear h d3
      go_enter Try.func9, Try.ntmps9
      go_wp2_with (first | (go_at_call 21; (with_reducible refine (bellwetherref03_Plain.calls k a0_0 a0_1 a0_2 a0_3 a0_4 a0_5 a0_6 a0_7 a0_8 a0_9 _ _ l0_10 0 _ ?side1 ?side2 HP.out).mono ?_); (case side1 => exact Kd.C_alloc (Kd.C_alloc HR.out _) _); (case side2 => exact HC.out); rintro e' w1 ⟨rfl, hb⟩; have K1 := Aside0.mk (blk_below (blk_alloc (blk_new w _) _) hb); have G1 := Aside0.mk (blk_below (blk_new (w.alloc (.cells #[.int .i64 a0_0, .int .i64 a0_1, .int .i64 a0_2, .int .i64 a0_3, .int .i64 a0_4, .int .i64 a0_5, .int .i64 a0_6, .int .i64 a0_7, .int .i64 a0_8, .int .i64 a0_9, .slice A0_10 l0_10.length c0_10] 24)) (.cells #[.int .i64 a2_0, .int .i64 a2_1, .string a2_2] 47)) hb); have HB1 := Aside0.mk (below_then (below_alloc (below_alloc (Below.refl _ w) _) _) (by simp; omega) hb); clear hb; simp only [bellwetherlaw12_HoldWaits.size_alloc] at G1; obtain ⟨q0, q1, q2, q3, q4, q5, q6, q7, q8, q9, q10⟩ := hold_of.cells (fr := (0, 0)) K1.out; have p0 := (blk_cell G1.out 0).trans rfl; have p1 := (blk_cell G1.out 1).trans rfl; have p2 := (blk_cell G1.out 2).trans rfl) | (go_at_call 23; (with_reducible refine (hold_Put.calls k a0_0 a0_1 a0_2 a0_3 a0_4 a0_5 a0_6 a0_7 a0_8 a0_9 _ _ l0_10 _ _ l1 a2_0 a2_1 a2_2 pa pe _ ?side1 ?side2 ?side3 ?side4 HPT.out).mono ?_); (case side1 => exact Kd.C_below HR.out HB1.out); (case side2 => exact HC.out); (case side3 => exact Kd.C_below HR1.out HB1.out); (case side4 => exact HC1.out); rintro e' w2 ⟨v0, rfl, ho0, hb⟩; obtain ⟨Ap, cp, rfl, hcp, hrp⟩ := Kd.R_reads ho0; have HRP := Aside0.mk hrp; have HCP := Aside0.mk hcp; clear ho0 hcp hrp; have K2 := Aside0.mk (blk_below K1.out hb); have G2 := Aside0.mk (blk_below G1.out hb); have HB2 := Aside0.mk (below_step HB1.out hb); clear hb; clear q0 q1 q2 q3 q4 q5 q6 q7 q8 q9 q10 p0 p1 p2; obtain ⟨q0, q1, q2, q3, q4, q5, q6, q7, q8, q9, q10⟩ := hold_of.cells (fr := (0, 0)) K2.out; have p0 := (blk_cell G2.out 0).trans rfl; have p1 := (blk_cell G2.out 1).trans rfl; have p2 := (blk_cell G2.out 2).trans rfl) | (go_at_call 22; (with_reducible refine (bellwetherlaw12_known.calls k true _ HK.out ⟨rfl⟩).mono ?_); rintro e' w3 ⟨rfl, hb⟩; have K3 := Aside0.mk (blk_below K2.out hb); have G3 := Aside0.mk (blk_below G2.out hb); have HB3 := Aside0.mk (below_step HB2.out hb); clear hb; clear q0 q1 q2 q3 q4 q5 q6 q7 q8 q9 q10 p0 p1 p2; obtain ⟨q0, q1, q2, q3, q4, q5, q6, q7, q8, q9, q10⟩ := hold_of.cells (fr := (0, 0)) K3.out; have p0 := (blk_cell G3.out 0).trans rfl; have p1 := (blk_cell G3.out 1).trans rfl; have p2 := (blk_cell G3.out 2).trans rfl))
      go_ret
      exact ⟨rfl, HB3.out⟩
  · rw [if_neg d2] at h
    have d2b : (e != 0) = true := by simpa using d2
    have HK := Aside0.mk h
    clear h d2
    go_enter Try.func9, Try.ntmps9
    go_wp2_with (first | (go_at_call 21; (with_reducible refine (bellwetherref03_Plain.calls k a0_0 a0_1 a0_2 a0_3 a0_4 a0_5 a0_6 a0_7 a0_8 a0_9 _ _ l0_10 e _ ?side1 ?side2 HP.out).mono ?_); (case side1 => exact Kd.C_alloc (Kd.C_alloc HR.out _) _); (case side2 => exact HC.out); rintro e' w1 ⟨rfl, hb⟩; have K1 := Aside0.mk (blk_below (blk_alloc (blk_new w _) _) hb); have G1 := Aside0.mk (blk_below (blk_new (w.alloc (.cells #[.int .i64 a0_0, .int .i64 a0_1, .int .i64 a0_2, .int .i64 a0_3, .int .i64 a0_4, .int .i64 a0_5, .int .i64 a0_6, .int .i64 a0_7, .int .i64 a0_8, .int .i64 a0_9, .slice A0_10 l0_10.length c0_10] 24)) (.cells #[.int .i64 a2_0, .int .i64 a2_1, .string a2_2] 47)) hb); have HB1 := Aside0.mk (below_then (below_alloc (below_alloc (Below.refl _ w) _) _) (by simp; omega) hb); clear hb; simp only [bellwetherlaw12_HoldWaits.size_alloc] at G1; obtain ⟨q0, q1, q2, q3, q4, q5, q6, q7, q8, q9, q10⟩ := hold_of.cells (fr := (0, 0)) K1.out; have p0 := (blk_cell G1.out 0).trans rfl; have p1 := (blk_cell G1.out 1).trans rfl; have p2 := (blk_cell G1.out 2).trans rfl) | (go_at_call 22; (with_reducible refine (bellwetherlaw12_known.calls k true _ HK.out ⟨rfl⟩).mono ?_); rintro e' w2 ⟨rfl, hb⟩; have K2 := Aside0.mk (blk_below K1.out hb); have G2 := Aside0.mk (blk_below G1.out hb); have HB2 := Aside0.mk (below_step HB1.out hb); clear hb; clear q0 q1 q2 q3 q4 q5 q6 q7 q8 q9 q10 p0 p1 p2; obtain ⟨q0, q1, q2, q3, q4, q5, q6, q7, q8, q9, q10⟩ := hold_of.cells (fr := (0, 0)) K2.out; have p0 := (blk_cell G2.out 0).trans rfl; have p1 := (blk_cell G2.out 1).trans rfl; have p2 := (blk_cell G2.out 2).trans rfl))
    go_ret
    exact ⟨rfl, HB2.out⟩

end Go.Proofs.Ytfdkmeokfmgfhaa.X
