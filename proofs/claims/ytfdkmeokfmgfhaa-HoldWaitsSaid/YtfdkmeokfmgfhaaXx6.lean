-- Laid by xprint.py, a program of this session, by the kit's print over contracts of our own. Lean checks it.
import Derived.Deep.RegionHeld3
import Derived.Test.YtfdkmeokfmgfhaaXx0
import Derived.Test.YtfdkmeokfmgfhaaXx3
import Derived.Test.YtfdkmeokfmgfhaaXx4
import Derived.Test.YtfdkmeokfmgfhaaXx5
namespace Go.Proofs.Ytfdkmeokfmgfhaa.X
open Go.RowKit Go.Proofs.YtfdkmeokfmgfhaaW.PrintWords Go.Proofs.YtfdkmeokfmgfhaaW.PrintLast Go.Proofs.YtfdkmeokfmgfhaaW.PrintMore
attribute [local go_sem] max2_int min2_int max_two min_two max_three min_three max_four min_four   -- for this text's walks alone
set_option linter.unusedVariables false
set_option linter.unusedSimpArgs false

/-! ### hold_refused: function 46 -/
-- stub
def hold_refused.f (k : Nat) (a0_0 : Int) (a0_1 : Int) (a0_2 : Int) (a0_3 : Int) (a0_4 : Int) (a0_5 : Int) (a0_6 : Int) (a0_7 : Int) (a0_8 : Int) (a0_9 : Int) (l0_10 : List Int) (l1 : List ByteArray) (a2 : Int) (a3 : Int) (a4 : ByteArray) : Option (Int) := (conf_Plain.f k a0_0 a0_1 a0_2 a0_3 a0_4 a0_5 a0_6 a0_7 a0_8 a0_9 l0_10).bind fun e => if e = 0 then (hold_fits.f k a0_0 a0_1 a0_2 a0_3 a0_4 a0_5 a0_6 a0_7 a0_8 a0_9 l0_10 l1).bind fun b => if b = true then (hold_node.f a0_0 a0_1 a0_2 a0_3 a0_4 a0_5 a0_6 a0_7 a0_8 a0_9 l0_10 a2).bind fun nb => if nb = true then (if a3 < 1 then some 10 else if a3 > a0_2 then some 10 else if a4.toList = ([] : List UInt8) then some 5 else if (a4.size : Int) > 40 then some 6 else if 0 ≤ a2 ∧ a2 ≤ 100 ∧ 1 ≤ a0_2 ∧ a0_2 ≤ 4 ∧ (a2 + 1) * a0_2 ≤ l1.length ∧ l1.length ≤ 1000000 then (if (rdOf ByteArray.empty l1 (a2 * a0_2 + (a0_2 - a3))).toList = ([] : List UInt8) then some 0 else some 13) else none) else some 7 else some 2 else some e
theorem hold_refused.mono : ∀ a0 a1 a2 a3 a4 a5 a6 a7 a8 a9 a10 a11 a12 a13 a14 k, LeO (hold_refused.f k a0 a1 a2 a3 a4 a5 a6 a7 a8 a9 a10 a11 a12 a13 a14) (hold_refused.f (k + 1) a0 a1 a2 a3 a4 a5 a6 a7 a8 a9 a10 a11 a12 a13 a14) := by
  intro a0 a1 a2 a3 a4 a5 a6 a7 a8 a9 a10 a11 a12 a13 a14 k
  unfold hold_refused.f
  refine LeO.bind (conf_Plain.mono _ _ _ _ _ _ _ _ _ _ _ _) (fun e => ?_)
  by_cases c : e = 0
  · rw [if_pos c, if_pos c]
    exact LeO.bind (hold_fits.mono _ _ _ _ _ _ _ _ _ _ _ _ _) (fun _ => LeO.refl _)
  · rw [if_neg c, if_neg c]
    exact LeO.refl _
set_option maxHeartbeats 4000000 in
set_option maxRecDepth 100000 in
theorem hold_refused.calls (k : Nat) (a0_0 : Int) (a0_1 : Int) (a0_2 : Int) (a0_3 : Int) (a0_4 : Int) (a0_5 : Int) (a0_6 : Int) (a0_7 : Int) (a0_8 : Int) (a0_9 : Int) (A0_10 : Option Addr) (c0_10 : Nat) (l0_10 : List Int) (A1 : Option Addr) (c1 : Nat) (l1 : List ByteArray) (a2 : Int) (a3 : Int) (a4 : ByteArray) (r : Int) (w : World) (hr0_10 : Kd.C (Kd.int .i64) w A0_10 l0_10.length l0_10) (hc0_10 : l0_10.length ≤ c0_10) (hr1 : Kd.C Kd.string w A1 l1.length l1) (hc1 : l1.length ≤ c1) (h : hold_refused.f k a0_0 a0_1 a0_2 a0_3 a0_4 a0_5 a0_6 a0_7 a0_8 a0_9 l0_10 l1 a2 a3 a4 = some r) :
    Calls Try.prog 46 #[.agg #[.int .i64 a0_0, .int .i64 a0_1, .int .i64 a0_2, .int .i64 a0_3, .int .i64 a0_4, .int .i64 a0_5, .int .i64 a0_6, .int .i64 a0_7, .int .i64 a0_8, .int .i64 a0_9, .slice A0_10 l0_10.length c0_10], .slice A1 l1.length c1, .int .i64 a2, .int .i64 a3, .string a4] w fun e w' => e = .returned (.int .i64 r) ∧ Below w.heap.size w w' := by
  have HR := Aside0.mk hr0_10
  have HC := Aside0.mk hc0_10
  have HR1 := Aside0.mk hr1
  have HC1 := Aside0.mk hc1
  clear hr0_10 hc0_10 hr1 hc1
  unfold hold_refused.f at h
  obtain ⟨e, hp, h⟩ := Option.bind_eq_some_iff.mp h
  have HP := Aside0.mk hp
  clear hp
  by_cases c1 : e = 0
  · subst c1
    rw [if_pos rfl] at h
    obtain ⟨b, hf, h⟩ := Option.bind_eq_some_iff.mp h
    have HF := Aside0.mk hf
    clear hf
    by_cases c2 : b = true
    · subst c2
      rw [if_pos rfl] at h
      obtain ⟨nb, hn, h⟩ := Option.bind_eq_some_iff.mp h
      have HN := Aside0.mk hn
      clear hn
      by_cases c3 : nb = true
      · subst c3
        rw [if_pos rfl] at h
        by_cases d1 : a3 < 1
        · rw [if_pos d1] at h
          obtain rfl := Option.some.inj h
          have d1b : decide (a3 < 1) = true := decide_eq_true d1
          clear h d1
          go_enter Try.func46, Try.ntmps46
          go_wp2_with (first | (go_at_call 35; (with_reducible refine (conf_Plain.calls k a0_0 a0_1 a0_2 a0_3 a0_4 a0_5 a0_6 a0_7 a0_8 a0_9 _ _ l0_10 0 _ ?side1 ?side2 HP.out).mono ?_); (case side1 => exact Kd.C_alloc HR.out _); (case side2 => exact HC.out); rintro e' w1 ⟨rfl, hb⟩; have K1 := Aside0.mk (blk_below (blk_new w _) hb); have HB1 := Aside0.mk (below_then (below_alloc (Below.refl _ w) _) (by simp) hb); clear hb; obtain ⟨q0, q1, q2, q3, q4, q5, q6, q7, q8, q9, q10⟩ := hold_of.cells (fr := (0, 0)) K1.out) | (go_at_call 49; (with_reducible refine (hold_fits.calls k a0_0 a0_1 a0_2 a0_3 a0_4 a0_5 a0_6 a0_7 a0_8 a0_9 _ _ l0_10 _ _ l1 true _ ?side1 ?side2 ?side3 ?side4 HF.out).mono ?_); (case side1 => exact Kd.C_below HR.out HB1.out); (case side2 => exact HC.out); (case side3 => exact Kd.C_below HR1.out HB1.out); (case side4 => exact HC1.out); rintro e' w2 ⟨rfl, hb⟩; have K2 := Aside0.mk (blk_below K1.out hb); have HB2 := Aside0.mk (below_then HB1.out HB1.out.size hb); clear hb; clear q0 q1 q2 q3 q4 q5 q6 q7 q8 q9 q10; obtain ⟨q0, q1, q2, q3, q4, q5, q6, q7, q8, q9, q10⟩ := hold_of.cells (fr := (0, 0)) K2.out) | (go_at_call 50; (with_reducible refine (hold_node.calls a0_0 a0_1 a0_2 a0_3 a0_4 a0_5 a0_6 a0_7 a0_8 a0_9 _ _ l0_10 a2 true _ ?side1 ?side2 HN.out).mono ?_); (case side1 => exact Kd.C_below HR.out HB2.out); (case side2 => exact HC.out); rintro e' w3 ⟨rfl, hb⟩; have K3 := Aside0.mk (blk_below K2.out hb); have HB3 := Aside0.mk (below_then HB2.out HB2.out.size hb); clear hb; clear q0 q1 q2 q3 q4 q5 q6 q7 q8 q9 q10; obtain ⟨q0, q1, q2, q3, q4, q5, q6, q7, q8, q9, q10⟩ := hold_of.cells (fr := (0, 0)) K3.out))
          go_ret
          exact ⟨rfl, HB3.out⟩
        rw [if_neg d1] at h
        have d1b : decide (a3 < 1) = false := decide_eq_false d1
        by_cases d2 : a3 > a0_2
        · rw [if_pos d2] at h
          obtain rfl := Option.some.inj h
          have d2b : decide (a0_2 < a3) = true := decide_eq_true d2
          clear h d2 d1
          go_enter Try.func46, Try.ntmps46
          go_wp2_with (first | (go_at_call 35; (with_reducible refine (conf_Plain.calls k a0_0 a0_1 a0_2 a0_3 a0_4 a0_5 a0_6 a0_7 a0_8 a0_9 _ _ l0_10 0 _ ?side1 ?side2 HP.out).mono ?_); (case side1 => exact Kd.C_alloc HR.out _); (case side2 => exact HC.out); rintro e' w1 ⟨rfl, hb⟩; have K1 := Aside0.mk (blk_below (blk_new w _) hb); have HB1 := Aside0.mk (below_then (below_alloc (Below.refl _ w) _) (by simp) hb); clear hb; obtain ⟨q0, q1, q2, q3, q4, q5, q6, q7, q8, q9, q10⟩ := hold_of.cells (fr := (0, 0)) K1.out) | (go_at_call 49; (with_reducible refine (hold_fits.calls k a0_0 a0_1 a0_2 a0_3 a0_4 a0_5 a0_6 a0_7 a0_8 a0_9 _ _ l0_10 _ _ l1 true _ ?side1 ?side2 ?side3 ?side4 HF.out).mono ?_); (case side1 => exact Kd.C_below HR.out HB1.out); (case side2 => exact HC.out); (case side3 => exact Kd.C_below HR1.out HB1.out); (case side4 => exact HC1.out); rintro e' w2 ⟨rfl, hb⟩; have K2 := Aside0.mk (blk_below K1.out hb); have HB2 := Aside0.mk (below_then HB1.out HB1.out.size hb); clear hb; clear q0 q1 q2 q3 q4 q5 q6 q7 q8 q9 q10; obtain ⟨q0, q1, q2, q3, q4, q5, q6, q7, q8, q9, q10⟩ := hold_of.cells (fr := (0, 0)) K2.out) | (go_at_call 50; (with_reducible refine (hold_node.calls a0_0 a0_1 a0_2 a0_3 a0_4 a0_5 a0_6 a0_7 a0_8 a0_9 _ _ l0_10 a2 true _ ?side1 ?side2 HN.out).mono ?_); (case side1 => exact Kd.C_below HR.out HB2.out); (case side2 => exact HC.out); rintro e' w3 ⟨rfl, hb⟩; have K3 := Aside0.mk (blk_below K2.out hb); have HB3 := Aside0.mk (below_then HB2.out HB2.out.size hb); clear hb; clear q0 q1 q2 q3 q4 q5 q6 q7 q8 q9 q10; obtain ⟨q0, q1, q2, q3, q4, q5, q6, q7, q8, q9, q10⟩ := hold_of.cells (fr := (0, 0)) K3.out))
          go_ret
          exact ⟨rfl, HB3.out⟩
        rw [if_neg d2] at h
        have d2b : decide (a0_2 < a3) = false := decide_eq_false d2
        by_cases d3 : a4.toList = []
        · rw [if_pos d3] at h
          obtain rfl := Option.some.inj h
          have d3b : a4.toList.isEmpty = true := by rw [d3]; rfl
          clear h d3 d2 d1
          go_enter Try.func46, Try.ntmps46
          go_wp2_with (first | (go_at_call 35; (with_reducible refine (conf_Plain.calls k a0_0 a0_1 a0_2 a0_3 a0_4 a0_5 a0_6 a0_7 a0_8 a0_9 _ _ l0_10 0 _ ?side1 ?side2 HP.out).mono ?_); (case side1 => exact Kd.C_alloc HR.out _); (case side2 => exact HC.out); rintro e' w1 ⟨rfl, hb⟩; have K1 := Aside0.mk (blk_below (blk_new w _) hb); have HB1 := Aside0.mk (below_then (below_alloc (Below.refl _ w) _) (by simp) hb); clear hb; obtain ⟨q0, q1, q2, q3, q4, q5, q6, q7, q8, q9, q10⟩ := hold_of.cells (fr := (0, 0)) K1.out) | (go_at_call 49; (with_reducible refine (hold_fits.calls k a0_0 a0_1 a0_2 a0_3 a0_4 a0_5 a0_6 a0_7 a0_8 a0_9 _ _ l0_10 _ _ l1 true _ ?side1 ?side2 ?side3 ?side4 HF.out).mono ?_); (case side1 => exact Kd.C_below HR.out HB1.out); (case side2 => exact HC.out); (case side3 => exact Kd.C_below HR1.out HB1.out); (case side4 => exact HC1.out); rintro e' w2 ⟨rfl, hb⟩; have K2 := Aside0.mk (blk_below K1.out hb); have HB2 := Aside0.mk (below_then HB1.out HB1.out.size hb); clear hb; clear q0 q1 q2 q3 q4 q5 q6 q7 q8 q9 q10; obtain ⟨q0, q1, q2, q3, q4, q5, q6, q7, q8, q9, q10⟩ := hold_of.cells (fr := (0, 0)) K2.out) | (go_at_call 50; (with_reducible refine (hold_node.calls a0_0 a0_1 a0_2 a0_3 a0_4 a0_5 a0_6 a0_7 a0_8 a0_9 _ _ l0_10 a2 true _ ?side1 ?side2 HN.out).mono ?_); (case side1 => exact Kd.C_below HR.out HB2.out); (case side2 => exact HC.out); rintro e' w3 ⟨rfl, hb⟩; have K3 := Aside0.mk (blk_below K2.out hb); have HB3 := Aside0.mk (below_then HB2.out HB2.out.size hb); clear hb; clear q0 q1 q2 q3 q4 q5 q6 q7 q8 q9 q10; obtain ⟨q0, q1, q2, q3, q4, q5, q6, q7, q8, q9, q10⟩ := hold_of.cells (fr := (0, 0)) K3.out))
          go_ret
          exact ⟨rfl, HB3.out⟩
        rw [if_neg d3] at h
        have d3b : a4.toList.isEmpty = false := by cases hq : a4.toList with | nil => exact absurd hq d3 | cons _ _ => rfl
        by_cases d4 : (a4.size : Int) > 40
        · rw [if_pos d4] at h
          obtain rfl := Option.some.inj h
          have d4b : decide (40 < (a4.size : Int)) = true := decide_eq_true d4
          clear h d4 d3 d2 d1
          go_enter Try.func46, Try.ntmps46
          go_wp2_with (first | (go_at_call 35; (with_reducible refine (conf_Plain.calls k a0_0 a0_1 a0_2 a0_3 a0_4 a0_5 a0_6 a0_7 a0_8 a0_9 _ _ l0_10 0 _ ?side1 ?side2 HP.out).mono ?_); (case side1 => exact Kd.C_alloc HR.out _); (case side2 => exact HC.out); rintro e' w1 ⟨rfl, hb⟩; have K1 := Aside0.mk (blk_below (blk_new w _) hb); have HB1 := Aside0.mk (below_then (below_alloc (Below.refl _ w) _) (by simp) hb); clear hb; obtain ⟨q0, q1, q2, q3, q4, q5, q6, q7, q8, q9, q10⟩ := hold_of.cells (fr := (0, 0)) K1.out) | (go_at_call 49; (with_reducible refine (hold_fits.calls k a0_0 a0_1 a0_2 a0_3 a0_4 a0_5 a0_6 a0_7 a0_8 a0_9 _ _ l0_10 _ _ l1 true _ ?side1 ?side2 ?side3 ?side4 HF.out).mono ?_); (case side1 => exact Kd.C_below HR.out HB1.out); (case side2 => exact HC.out); (case side3 => exact Kd.C_below HR1.out HB1.out); (case side4 => exact HC1.out); rintro e' w2 ⟨rfl, hb⟩; have K2 := Aside0.mk (blk_below K1.out hb); have HB2 := Aside0.mk (below_then HB1.out HB1.out.size hb); clear hb; clear q0 q1 q2 q3 q4 q5 q6 q7 q8 q9 q10; obtain ⟨q0, q1, q2, q3, q4, q5, q6, q7, q8, q9, q10⟩ := hold_of.cells (fr := (0, 0)) K2.out) | (go_at_call 50; (with_reducible refine (hold_node.calls a0_0 a0_1 a0_2 a0_3 a0_4 a0_5 a0_6 a0_7 a0_8 a0_9 _ _ l0_10 a2 true _ ?side1 ?side2 HN.out).mono ?_); (case side1 => exact Kd.C_below HR.out HB2.out); (case side2 => exact HC.out); rintro e' w3 ⟨rfl, hb⟩; have K3 := Aside0.mk (blk_below K2.out hb); have HB3 := Aside0.mk (below_then HB2.out HB2.out.size hb); clear hb; clear q0 q1 q2 q3 q4 q5 q6 q7 q8 q9 q10; obtain ⟨q0, q1, q2, q3, q4, q5, q6, q7, q8, q9, q10⟩ := hold_of.cells (fr := (0, 0)) K3.out))
          go_ret
          exact ⟨rfl, HB3.out⟩
        rw [if_neg d4] at h
        have d4b : decide (40 < (a4.size : Int)) = false := decide_eq_false d4
        by_cases d5 : 0 ≤ a2 ∧ a2 ≤ 100 ∧ 1 ≤ a0_2 ∧ a0_2 ≤ 4 ∧ (a2 + 1) * a0_2 ≤ l1.length ∧ l1.length ≤ 1000000
        · rw [if_pos d5] at h
          obtain ⟨g0, g1, g2, g3, g4, g5⟩ := d5
          obtain ⟨y, hy⟩ : ∃ y, a2 * a0_2 = y := ⟨_, rfl⟩
          have hz : (a2 + 1) * a0_2 = y + a0_2 := by rw [Int.add_mul, hy, Int.one_mul]
          have hy0 : 0 ≤ y := by rw [← hy]; exact Int.mul_nonneg g0 (by omega)
          rw [hy] at h
          rw [hz] at g4
          obtain ⟨ad, e0, hx⟩ := Kd.at_string HR1.out (y + (a0_2 - a3)) (by omega) (by omega)
          subst e0
          have hx' : w.cell? ((ad.add y.toNat).add (a0_2 - a3).toNat) = some (.string (rdOf ByteArray.empty l1 (y + (a0_2 - a3)))) := by rw [hold_of.add_add, show y.toNat + (a0_2 - a3).toNat = (y + (a0_2 - a3)).toNat by omega]; exact hx
          have HX := Aside0.mk hx'
          have HY := Aside0.mk hy
          have HZ := Aside0.mk hz
          clear hx hx' hy hz
          generalize hq : rdOf ByteArray.empty l1 (y + (a0_2 - a3)) = q at h HX
          have HQ := Aside0.mk hq
          clear hq
          obtain ⟨x, hxe⟩ : ∃ x, a0_2 - a3 = x := ⟨_, rfl⟩
          have j2 : x ≤ 4 := by omega
          have hw : IntKind.i64.wrap x = x := by simp only [i64_w]; unfold wrap64; omega
          rw [hxe] at HX HQ
          have j0 : 0 ≤ x := by omega
          obtain ⟨L, hL⟩ : ∃ L : Nat, (y + a0_2).toNat - y.toNat = L := ⟨_, rfl⟩
          have j1 : x < (L : Int) := by omega
          have HL := Aside0.mk hL
          clear hL
          have HCC := Aside0.mk HC1.out
          by_cases d6 : q.toList = []
          · rw [if_pos d6] at h
            obtain rfl := Option.some.inj h
            have d6b : q.toList.isEmpty = true := by rw [d6]; rfl
            have d6c : (!q.toList.isEmpty) = false := by rw [d6]; rfl
            clear h d6
            go_enter Try.func46, Try.ntmps46
            go_wp2_with (first | (go_at_call 35; (with_reducible refine (conf_Plain.calls k a0_0 a0_1 a0_2 a0_3 a0_4 a0_5 a0_6 a0_7 a0_8 a0_9 _ _ l0_10 0 _ ?side1 ?side2 HP.out).mono ?_); (case side1 => exact Kd.C_alloc HR.out _); (case side2 => exact HC.out); rintro e' w1 ⟨rfl, hb⟩; have K1 := Aside0.mk (blk_below (blk_new w _) hb); have HB1 := Aside0.mk (below_then (below_alloc (Below.refl _ w) _) (by simp) hb); clear hb; obtain ⟨q0, q1, q2, q3, q4, q5, q6, q7, q8, q9, q10⟩ := hold_of.cells (fr := (0, 0)) K1.out) | (go_at_call 49; (with_reducible refine (hold_fits.calls k a0_0 a0_1 a0_2 a0_3 a0_4 a0_5 a0_6 a0_7 a0_8 a0_9 _ _ l0_10 _ _ l1 true _ ?side1 ?side2 ?side3 ?side4 HF.out).mono ?_); (case side1 => exact Kd.C_below HR.out HB1.out); (case side2 => exact HC.out); (case side3 => exact Kd.C_below HR1.out HB1.out); (case side4 => exact HC1.out); rintro e' w2 ⟨rfl, hb⟩; have K2 := Aside0.mk (blk_below K1.out hb); have HB2 := Aside0.mk (below_then HB1.out HB1.out.size hb); clear hb; clear q0 q1 q2 q3 q4 q5 q6 q7 q8 q9 q10; obtain ⟨q0, q1, q2, q3, q4, q5, q6, q7, q8, q9, q10⟩ := hold_of.cells (fr := (0, 0)) K2.out) | (go_at_call 50; (with_reducible refine (hold_node.calls a0_0 a0_1 a0_2 a0_3 a0_4 a0_5 a0_6 a0_7 a0_8 a0_9 _ _ l0_10 a2 true _ ?side1 ?side2 HN.out).mono ?_); (case side1 => exact Kd.C_below HR.out HB2.out); (case side2 => exact HC.out); rintro e' w3 ⟨rfl, hb⟩; have K3 := Aside0.mk (blk_below K2.out hb); have HB3 := Aside0.mk (below_then HB2.out HB2.out.size hb); clear hb; clear q0 q1 q2 q3 q4 q5 q6 q7 q8 q9 q10; obtain ⟨q0, q1, q2, q3, q4, q5, q6, q7, q8, q9, q10⟩ := hold_of.cells (fr := (0, 0)) K3.out))
            have hxb := pw_cell_below HB3.out HX.out
            have hbb := HB3.out
            go_region_held3 (fun w' => w'.cell? ⟨w.heap.size, 0, none⟩ = some (.int .i64 a0_0) ∧ w'.cell? ⟨w.heap.size, 1, none⟩ = some (.int .i64 a0_1) ∧ w'.cell? ⟨w.heap.size, 2, none⟩ = some (.int .i64 a0_2) ∧ w'.cell? ⟨w.heap.size, 3, none⟩ = some (.int .i64 a0_3) ∧ w'.cell? ⟨w.heap.size, 4, none⟩ = some (.int .i64 a0_4) ∧ w'.cell? ⟨w.heap.size, 5, none⟩ = some (.int .i64 a0_5) ∧ w'.cell? ⟨w.heap.size, 6, none⟩ = some (.int .i64 a0_6) ∧ w'.cell? ⟨w.heap.size, 7, none⟩ = some (.int .i64 a0_7) ∧ w'.cell? ⟨w.heap.size, 8, none⟩ = some (.int .i64 a0_8) ∧ w'.cell? ⟨w.heap.size, 9, none⟩ = some (.int .i64 a0_9) ∧ w'.cell? ⟨w.heap.size, 10, none⟩ = some (.slice A0_10 l0_10.length c0_10) ∧ w'.cell? ((ad.add y.toNat).add x.toNat) = some (.string q) ∧ Below w.heap.size w w') (((try go_split_ands); refine ⟨?_, ?_, ?_, ?_, ?_, ?_, ?_, ?_, ?_, ?_, ?_, ?_, ?_⟩ <;> (first | assumption | exact pw_cell_below hb (by assumption) | exact below_step (by assumption) hb | exact below_drew1 (by assumption)))) ((go_at_call 47; (with_reducible refine (hold_of.calls a0_0 a0_1 a0_2 a0_3 a0_4 a0_5 a0_6 a0_7 a0_8 a0_9 A0_10 l0_10.length c0_10 ad l1.length c1 a2 y (y + a0_2) _ g0 g1 HY.out HZ.out hy0 (by omega) (by have := HC1.out; omega) (by omega) L HL.out).mono ?_); rintro e' w4 ⟨rfl, hb⟩))
            go_wp2
            go_ret
            exact ⟨rfl, below_step (below_drew1 hbb) hb⟩
          · rw [if_neg d6] at h
            obtain rfl := Option.some.inj h
            have d6b : q.toList.isEmpty = false := by cases hq : q.toList with | nil => exact absurd hq d6 | cons _ _ => rfl
            have d6c : (!q.toList.isEmpty) = true := by rw [d6b]; rfl
            clear h d6
            go_enter Try.func46, Try.ntmps46
            go_wp2_with (first | (go_at_call 35; (with_reducible refine (conf_Plain.calls k a0_0 a0_1 a0_2 a0_3 a0_4 a0_5 a0_6 a0_7 a0_8 a0_9 _ _ l0_10 0 _ ?side1 ?side2 HP.out).mono ?_); (case side1 => exact Kd.C_alloc HR.out _); (case side2 => exact HC.out); rintro e' w1 ⟨rfl, hb⟩; have K1 := Aside0.mk (blk_below (blk_new w _) hb); have HB1 := Aside0.mk (below_then (below_alloc (Below.refl _ w) _) (by simp) hb); clear hb; obtain ⟨q0, q1, q2, q3, q4, q5, q6, q7, q8, q9, q10⟩ := hold_of.cells (fr := (0, 0)) K1.out) | (go_at_call 49; (with_reducible refine (hold_fits.calls k a0_0 a0_1 a0_2 a0_3 a0_4 a0_5 a0_6 a0_7 a0_8 a0_9 _ _ l0_10 _ _ l1 true _ ?side1 ?side2 ?side3 ?side4 HF.out).mono ?_); (case side1 => exact Kd.C_below HR.out HB1.out); (case side2 => exact HC.out); (case side3 => exact Kd.C_below HR1.out HB1.out); (case side4 => exact HC1.out); rintro e' w2 ⟨rfl, hb⟩; have K2 := Aside0.mk (blk_below K1.out hb); have HB2 := Aside0.mk (below_then HB1.out HB1.out.size hb); clear hb; clear q0 q1 q2 q3 q4 q5 q6 q7 q8 q9 q10; obtain ⟨q0, q1, q2, q3, q4, q5, q6, q7, q8, q9, q10⟩ := hold_of.cells (fr := (0, 0)) K2.out) | (go_at_call 50; (with_reducible refine (hold_node.calls a0_0 a0_1 a0_2 a0_3 a0_4 a0_5 a0_6 a0_7 a0_8 a0_9 _ _ l0_10 a2 true _ ?side1 ?side2 HN.out).mono ?_); (case side1 => exact Kd.C_below HR.out HB2.out); (case side2 => exact HC.out); rintro e' w3 ⟨rfl, hb⟩; have K3 := Aside0.mk (blk_below K2.out hb); have HB3 := Aside0.mk (below_then HB2.out HB2.out.size hb); clear hb; clear q0 q1 q2 q3 q4 q5 q6 q7 q8 q9 q10; obtain ⟨q0, q1, q2, q3, q4, q5, q6, q7, q8, q9, q10⟩ := hold_of.cells (fr := (0, 0)) K3.out))
            have hxb := pw_cell_below HB3.out HX.out
            have hbb := HB3.out
            go_region_held3 (fun w' => w'.cell? ⟨w.heap.size, 0, none⟩ = some (.int .i64 a0_0) ∧ w'.cell? ⟨w.heap.size, 1, none⟩ = some (.int .i64 a0_1) ∧ w'.cell? ⟨w.heap.size, 2, none⟩ = some (.int .i64 a0_2) ∧ w'.cell? ⟨w.heap.size, 3, none⟩ = some (.int .i64 a0_3) ∧ w'.cell? ⟨w.heap.size, 4, none⟩ = some (.int .i64 a0_4) ∧ w'.cell? ⟨w.heap.size, 5, none⟩ = some (.int .i64 a0_5) ∧ w'.cell? ⟨w.heap.size, 6, none⟩ = some (.int .i64 a0_6) ∧ w'.cell? ⟨w.heap.size, 7, none⟩ = some (.int .i64 a0_7) ∧ w'.cell? ⟨w.heap.size, 8, none⟩ = some (.int .i64 a0_8) ∧ w'.cell? ⟨w.heap.size, 9, none⟩ = some (.int .i64 a0_9) ∧ w'.cell? ⟨w.heap.size, 10, none⟩ = some (.slice A0_10 l0_10.length c0_10) ∧ w'.cell? ((ad.add y.toNat).add x.toNat) = some (.string q) ∧ Below w.heap.size w w') (((try go_split_ands); refine ⟨?_, ?_, ?_, ?_, ?_, ?_, ?_, ?_, ?_, ?_, ?_, ?_, ?_⟩ <;> (first | assumption | exact pw_cell_below hb (by assumption) | exact below_step (by assumption) hb | exact below_drew1 (by assumption)))) ((go_at_call 47; (with_reducible refine (hold_of.calls a0_0 a0_1 a0_2 a0_3 a0_4 a0_5 a0_6 a0_7 a0_8 a0_9 A0_10 l0_10.length c0_10 ad l1.length c1 a2 y (y + a0_2) _ g0 g1 HY.out HZ.out hy0 (by omega) (by have := HC1.out; omega) (by omega) L HL.out).mono ?_); rintro e' w4 ⟨rfl, hb⟩))
            go_wp2
            go_ret
            exact ⟨rfl, below_step (below_drew1 hbb) hb⟩
        · rw [if_neg d5] at h
          cases h
      · obtain rfl : nb = false := by simpa using c3
        rw [if_neg c3] at h
        obtain rfl := Option.some.inj h
        clear h c3
        go_enter Try.func46, Try.ntmps46
        go_wp2_with (first | (go_at_call 35; (with_reducible refine (conf_Plain.calls k a0_0 a0_1 a0_2 a0_3 a0_4 a0_5 a0_6 a0_7 a0_8 a0_9 _ _ l0_10 0 _ ?side1 ?side2 HP.out).mono ?_); (case side1 => exact Kd.C_alloc HR.out _); (case side2 => exact HC.out); rintro e' w1 ⟨rfl, hb⟩; have K1 := Aside0.mk (blk_below (blk_new w _) hb); have HB1 := Aside0.mk (below_then (below_alloc (Below.refl _ w) _) (by simp) hb); clear hb; obtain ⟨q0, q1, q2, q3, q4, q5, q6, q7, q8, q9, q10⟩ := hold_of.cells (fr := (0, 0)) K1.out) | (go_at_call 49; (with_reducible refine (hold_fits.calls k a0_0 a0_1 a0_2 a0_3 a0_4 a0_5 a0_6 a0_7 a0_8 a0_9 _ _ l0_10 _ _ l1 true _ ?side1 ?side2 ?side3 ?side4 HF.out).mono ?_); (case side1 => exact Kd.C_below HR.out HB1.out); (case side2 => exact HC.out); (case side3 => exact Kd.C_below HR1.out HB1.out); (case side4 => exact HC1.out); rintro e' w2 ⟨rfl, hb⟩; have K2 := Aside0.mk (blk_below K1.out hb); have HB2 := Aside0.mk (below_then HB1.out HB1.out.size hb); clear hb; clear q0 q1 q2 q3 q4 q5 q6 q7 q8 q9 q10; obtain ⟨q0, q1, q2, q3, q4, q5, q6, q7, q8, q9, q10⟩ := hold_of.cells (fr := (0, 0)) K2.out) | (go_at_call 50; (with_reducible refine (hold_node.calls a0_0 a0_1 a0_2 a0_3 a0_4 a0_5 a0_6 a0_7 a0_8 a0_9 _ _ l0_10 a2 false _ ?side1 ?side2 HN.out).mono ?_); (case side1 => exact Kd.C_below HR.out HB2.out); (case side2 => exact HC.out); rintro e' w3 ⟨rfl, hb⟩; have K3 := Aside0.mk (blk_below K2.out hb); have HB3 := Aside0.mk (below_then HB2.out HB2.out.size hb); clear hb; clear q0 q1 q2 q3 q4 q5 q6 q7 q8 q9 q10; obtain ⟨q0, q1, q2, q3, q4, q5, q6, q7, q8, q9, q10⟩ := hold_of.cells (fr := (0, 0)) K3.out))
        go_ret
        exact ⟨rfl, HB3.out⟩
    · obtain rfl : b = false := by simpa using c2
      rw [if_neg c2] at h
      obtain rfl := Option.some.inj h
      clear h c2
      go_enter Try.func46, Try.ntmps46
      go_wp2_with (first | (go_at_call 35; (with_reducible refine (conf_Plain.calls k a0_0 a0_1 a0_2 a0_3 a0_4 a0_5 a0_6 a0_7 a0_8 a0_9 _ _ l0_10 0 _ ?side1 ?side2 HP.out).mono ?_); (case side1 => exact Kd.C_alloc HR.out _); (case side2 => exact HC.out); rintro e' w1 ⟨rfl, hb⟩; have K1 := Aside0.mk (blk_below (blk_new w _) hb); have HB1 := Aside0.mk (below_then (below_alloc (Below.refl _ w) _) (by simp) hb); clear hb; obtain ⟨q0, q1, q2, q3, q4, q5, q6, q7, q8, q9, q10⟩ := hold_of.cells (fr := (0, 0)) K1.out) | (go_at_call 49; (with_reducible refine (hold_fits.calls k a0_0 a0_1 a0_2 a0_3 a0_4 a0_5 a0_6 a0_7 a0_8 a0_9 _ _ l0_10 _ _ l1 false _ ?side1 ?side2 ?side3 ?side4 HF.out).mono ?_); (case side1 => exact Kd.C_below HR.out HB1.out); (case side2 => exact HC.out); (case side3 => exact Kd.C_below HR1.out HB1.out); (case side4 => exact HC1.out); rintro e' w2 ⟨rfl, hb⟩; have K2 := Aside0.mk (blk_below K1.out hb); have HB2 := Aside0.mk (below_then HB1.out HB1.out.size hb); clear hb; clear q0 q1 q2 q3 q4 q5 q6 q7 q8 q9 q10; obtain ⟨q0, q1, q2, q3, q4, q5, q6, q7, q8, q9, q10⟩ := hold_of.cells (fr := (0, 0)) K2.out))
      go_ret
      exact ⟨rfl, HB2.out⟩
  · rw [if_neg c1] at h
    obtain rfl := Option.some.inj h
    have c1b : (e != 0) = true := by simpa using c1
    clear h c1
    go_enter Try.func46, Try.ntmps46
    go_wp2_with (first | (go_at_call 35; (with_reducible refine (conf_Plain.calls k a0_0 a0_1 a0_2 a0_3 a0_4 a0_5 a0_6 a0_7 a0_8 a0_9 _ _ l0_10 e _ ?side1 ?side2 HP.out).mono ?_); (case side1 => exact Kd.C_alloc HR.out _); (case side2 => exact HC.out); rintro e' w1 ⟨rfl, hb⟩; have K1 := Aside0.mk (blk_below (blk_new w _) hb); have HB1 := Aside0.mk (below_then (below_alloc (Below.refl _ w) _) (by simp) hb); clear hb; obtain ⟨q0, q1, q2, q3, q4, q5, q6, q7, q8, q9, q10⟩ := hold_of.cells (fr := (0, 0)) K1.out) | (go_at_call 35; (with_reducible refine (conf_Plain.calls k a0_0 a0_1 a0_2 a0_3 a0_4 a0_5 a0_6 a0_7 a0_8 a0_9 _ _ l0_10 e _ ?side1 ?side2 HP.out).mono ?_); (case side1 => exact Kd.C_below HR.out HB1.out); (case side2 => exact HC.out); rintro e' w2 ⟨rfl, hb⟩; have K2 := Aside0.mk (blk_below K1.out hb); have HB2 := Aside0.mk (below_then HB1.out HB1.out.size hb); clear hb; clear q0 q1 q2 q3 q4 q5 q6 q7 q8 q9 q10; obtain ⟨q0, q1, q2, q3, q4, q5, q6, q7, q8, q9, q10⟩ := hold_of.cells (fr := (0, 0)) K2.out))
    go_ret
    exact ⟨rfl, HB2.out⟩

end Go.Proofs.Ytfdkmeokfmgfhaa.X
