-- Laid by xprint.py, a program of this session, by the kit's print over contracts of our own. Lean checks it.
import Derived.Test.YtfdkmeokfmgfhaaXx0
import Derived.Test.YtfdkmeokfmgfhaaXx4
import Derived.Test.YtfdkmeokfmgfhaaXx5
namespace Go.Proofs.Ytfdkmeokfmgfhaa.X
open Go.RowKit Go.Proofs.YtfdkmeokfmgfhaaW.PrintWords Go.Proofs.YtfdkmeokfmgfhaaW.PrintLast Go.Proofs.YtfdkmeokfmgfhaaW.PrintMore
attribute [local go_sem] max2_int min2_int max_two min_two max_three min_three max_four min_four   -- for this text's walks alone
set_option linter.unusedVariables false
set_option linter.unusedSimpArgs false

/-! ### hold_Held: function 30 -/
-- stub
/-- How many of so many texts, from a place on, are not empty. -/
def hold_Held.cnt (l : List ByteArray) (y : Int) : Nat → Int
  | 0 => 0
  | k + 1 => if (rdOf ByteArray.empty l (y + (k : Int))).toList = ([] : List UInt8) then hold_Held.cnt l y k else hold_Held.cnt l y k + 1
theorem hold_Held.cnt_le (l : List ByteArray) (y : Int) : ∀ k : Nat, 0 ≤ hold_Held.cnt l y k ∧ hold_Held.cnt l y k ≤ k
  | 0 => by simp [hold_Held.cnt]
  | k + 1 => by
    have := hold_Held.cnt_le l y k
    unfold hold_Held.cnt
    split <;> omega
def hold_Held.f (k : Nat) (a0_0 : Int) (a0_1 : Int) (a0_2 : Int) (a0_3 : Int) (a0_4 : Int) (a0_5 : Int) (a0_6 : Int) (a0_7 : Int) (a0_8 : Int) (a0_9 : Int) (l0_10 : List Int) (l1 : List ByteArray) (a2 : Int) : Option (Int) := (hold_fits.f k a0_0 a0_1 a0_2 a0_3 a0_4 a0_5 a0_6 a0_7 a0_8 a0_9 l0_10 l1).bind fun b => if b = true then (hold_node.f a0_0 a0_1 a0_2 a0_3 a0_4 a0_5 a0_6 a0_7 a0_8 a0_9 l0_10 a2).bind fun nb => if nb = true then (if 0 ≤ a2 ∧ a2 ≤ 100 ∧ 1 ≤ a0_2 ∧ a0_2 ≤ 4 ∧ (a2 + 1) * a0_2 ≤ l1.length ∧ l1.length ≤ 1000000 then some (hold_Held.cnt l1 (a2 * a0_2) a0_2.toNat) else none) else some 0 else some 0
theorem hold_Held.mono : ∀ a0 a1 a2 a3 a4 a5 a6 a7 a8 a9 a10 a11 a12 k, LeO (hold_Held.f k a0 a1 a2 a3 a4 a5 a6 a7 a8 a9 a10 a11 a12) (hold_Held.f (k + 1) a0 a1 a2 a3 a4 a5 a6 a7 a8 a9 a10 a11 a12) := by
  intro a0 a1 a2 a3 a4 a5 a6 a7 a8 a9 a10 a11 a12 k
  unfold hold_Held.f
  exact LeO.bind (hold_fits.mono _ _ _ _ _ _ _ _ _ _ _ _ _) (fun _ => LeO.refl _)
set_option maxHeartbeats 4000000 in
set_option maxRecDepth 100000 in
theorem hold_Held.calls (k : Nat) (a0_0 : Int) (a0_1 : Int) (a0_2 : Int) (a0_3 : Int) (a0_4 : Int) (a0_5 : Int) (a0_6 : Int) (a0_7 : Int) (a0_8 : Int) (a0_9 : Int) (A0_10 : Option Addr) (c0_10 : Nat) (l0_10 : List Int) (A1 : Option Addr) (c1 : Nat) (l1 : List ByteArray) (a2 : Int) (r : Int) (w : World) (hr0_10 : Kd.C (Kd.int .i64) w A0_10 l0_10.length l0_10) (hc0_10 : l0_10.length ≤ c0_10) (hr1 : Kd.C Kd.string w A1 l1.length l1) (hc1 : l1.length ≤ c1) (h : hold_Held.f k a0_0 a0_1 a0_2 a0_3 a0_4 a0_5 a0_6 a0_7 a0_8 a0_9 l0_10 l1 a2 = some r) :
    Calls Try.prog 30 #[.agg #[.int .i64 a0_0, .int .i64 a0_1, .int .i64 a0_2, .int .i64 a0_3, .int .i64 a0_4, .int .i64 a0_5, .int .i64 a0_6, .int .i64 a0_7, .int .i64 a0_8, .int .i64 a0_9, .slice A0_10 l0_10.length c0_10], .slice A1 l1.length c1, .int .i64 a2] w fun e w' => e = .returned (.int .i64 r) ∧ Below w.heap.size w w' := by
  have HR := Aside0.mk hr0_10
  have HC := Aside0.mk hc0_10
  have HR1 := Aside0.mk hr1
  have HC1 := Aside0.mk hc1
  clear hr0_10 hc0_10 hr1 hc1
  unfold hold_Held.f at h
  obtain ⟨b, hf, h⟩ := Option.bind_eq_some_iff.mp h
  have HF := Aside0.mk hf
  clear hf
  by_cases c2 : b = true
  · subst c2
    rw [if_pos rfl] at h
    obtain ⟨nb, hn, h⟩ := Option.bind_eq_some_iff.mp h
    have HN := Aside0.mk hn
    clear hn
    by_cases c3 : nb = true
    · subst c3
      rw [if_pos rfl] at h
      by_cases d5 : 0 ≤ a2 ∧ a2 ≤ 100 ∧ 1 ≤ a0_2 ∧ a0_2 ≤ 4 ∧ (a2 + 1) * a0_2 ≤ l1.length ∧ l1.length ≤ 1000000
      · rw [if_pos d5] at h
        obtain ⟨g0, g1, g2, g3, g4, g5⟩ := d5
        obtain ⟨y, hy⟩ : ∃ y, a2 * a0_2 = y := ⟨_, rfl⟩
        have hz : (a2 + 1) * a0_2 = y + a0_2 := by rw [Int.add_mul, hy, Int.one_mul]
        have hy0 : 0 ≤ y := by rw [← hy]; exact Int.mul_nonneg g0 (by omega)
        rw [hy] at h
        rw [hz] at g4
        obtain ⟨ad, e0, _⟩ := Kd.at_string HR1.out y (by omega) (by omega)
        subst e0
        have hx : ∀ j : Nat, j < a0_2.toNat → w.cell? ((ad.add y.toNat).add j) = some (.string (rdOf ByteArray.empty l1 (y + (j : Int)))) := by
          intro j hj
          obtain ⟨ad', e1, hx⟩ := Kd.at_string HR1.out (y + (j : Int)) (by omega) (by omega)
          injection e1 with e1
          subst e1
          rw [hold_of.add_add, show y.toNat + j = (y + (j : Int)).toNat by omega]
          exact hx
        have HX := Aside0.mk hx
        have HY := Aside0.mk hy
        have HZ := Aside0.mk hz
        clear hx hy hz
        obtain ⟨L, hL⟩ : ∃ L : Nat, (y + a0_2).toNat - y.toNat = L := ⟨_, rfl⟩
        have HLd := Aside0.mk (show a0_2.toNat = L by omega)
        have hL4 : L ≤ 4 := by omega
        have HL := Aside0.mk hL
        clear hL
        have HLr := Aside0.mk (show r = hold_Held.cnt l1 y L by rw [← HLd.out]; exact (Option.some.inj h).symm)
        clear h
        go_enter Try.func30, Try.ntmps30
        go_wp2_with (first | (go_at_call 49; (with_reducible refine (hold_fits.calls k a0_0 a0_1 a0_2 a0_3 a0_4 a0_5 a0_6 a0_7 a0_8 a0_9 _ _ l0_10 _ _ l1 true _ ?side1 ?side2 ?side3 ?side4 HF.out).mono ?_); (case side1 => exact Kd.C_alloc HR.out _); (case side2 => exact HC.out); (case side3 => exact Kd.C_alloc HR1.out _); (case side4 => exact HC1.out); rintro e' w1 ⟨rfl, hb⟩; have K1 := Aside0.mk (blk_below (blk_new w _) hb); have HB1 := Aside0.mk (below_then (below_alloc (Below.refl _ w) _) (by simp) hb); clear hb; obtain ⟨q0, q1, q2, q3, q4, q5, q6, q7, q8, q9, q10⟩ := hold_of.cells (fr := (0, 0)) K1.out) | (go_at_call 50; (with_reducible refine (hold_node.calls a0_0 a0_1 a0_2 a0_3 a0_4 a0_5 a0_6 a0_7 a0_8 a0_9 _ _ l0_10 a2 true _ ?side1 ?side2 HN.out).mono ?_); (case side1 => exact Kd.C_below HR.out HB1.out); (case side2 => exact HC.out); rintro e' w2 ⟨rfl, hb⟩; have K2 := Aside0.mk (blk_below K1.out hb); have HB2 := Aside0.mk (below_then HB1.out HB1.out.size hb); clear hb; clear q0 q1 q2 q3 q4 q5 q6 q7 q8 q9 q10; obtain ⟨q0, q1, q2, q3, q4, q5, q6, q7, q8, q9, q10⟩ := hold_of.cells (fr := (0, 0)) K2.out) | (go_at_call 47; (with_reducible refine (hold_of.calls a0_0 a0_1 a0_2 a0_3 a0_4 a0_5 a0_6 a0_7 a0_8 a0_9 A0_10 l0_10.length c0_10 ad l1.length c1 a2 y (y + a0_2) _ g0 g1 HY.out HZ.out hy0 (by omega) (by have := HC1.out; omega) (by omega) L HL.out).mono ?_); rintro e' w3 ⟨rfl, hb⟩; have K3 := Aside0.mk (blk_below K2.out hb); have HB3 := Aside0.mk (below_then HB2.out HB2.out.size hb); clear hb; clear q0 q1 q2 q3 q4 q5 q6 q7 q8 q9 q10; obtain ⟨q0, q1, q2, q3, q4, q5, q6, q7, q8, q9, q10⟩ := hold_of.cells (fr := (0, 0)) K3.out))
        go_loop [7, 25] (fun n i => ∃ j : Nat, j ≤ L ∧ i = .int .i64 j ∧ n = .int .i64 (hold_Held.cnt l1 y j)) (fun _ i => L - (intOf i).toNat)
        case atStart => exact ⟨0, Nat.zero_le _, rfl, rfl⟩
        case round =>
          obtain ⟨j, hj, rfl, rfl⟩ := hrel
          have hcl := hold_Held.cnt_le l1 y j
          by_cases hlt : j < L
          · have hltb : decide ((j : Int) < (L : Int)) = true := decide_eq_true (by omega)
            have hc := pw_cell_below HB3.out (HX.out j (by have := HLd.out; omega))
            have HS := Aside0.mk (show hold_Held.cnt l1 y (j + 1) = if (rdOf ByteArray.empty l1 (y + (j : Int))).toList = ([] : List UInt8) then hold_Held.cnt l1 y j else hold_Held.cnt l1 y j + 1 from rfl)
            generalize rdOf ByteArray.empty l1 (y + (j : Int)) = q at hc HS
            by_cases d6 : q.toList = []
            · have d6b : q.toList.isEmpty = true := by rw [d6]; rfl
              have d6c : (!q.toList.isEmpty) = false := by rw [d6]; rfl
              have HT := Aside0.mk (HS.out.trans (if_pos d6))
              clear d6 HS
              go_wp2
              go_round
              case rel => exact ⟨j + 1, by omega, by go_num, by rw [HT.out]⟩
              case measure => simp [intOf]; omega
            · have d6b : q.toList.isEmpty = false := by cases hq : q.toList with | nil => exact absurd hq d6 | cons _ _ => rfl
              have d6c : (!q.toList.isEmpty) = true := by rw [d6b]; rfl
              have HT := Aside0.mk (HS.out.trans (if_neg d6))
              clear d6 HS
              go_wp2
              go_round
              case rel => exact ⟨j + 1, by omega, by go_num, by rw [HT.out]⟩
              case measure => simp [intOf]; omega
          · obtain rfl : j = L := by omega
            have hltb : decide ((j : Int) < (j : Int)) = false := decide_eq_false (by omega)
            go_wp2
            go_ret
            exact ⟨by rw [HLr.out]; rfl, HB3.out⟩
      · rw [if_neg d5] at h
        cases h
    · obtain rfl : nb = false := by simpa using c3
      rw [if_neg c3] at h
      obtain rfl := Option.some.inj h
      clear h c3
      go_enter Try.func30, Try.ntmps30
      go_wp2_with (first | (go_at_call 49; (with_reducible refine (hold_fits.calls k a0_0 a0_1 a0_2 a0_3 a0_4 a0_5 a0_6 a0_7 a0_8 a0_9 _ _ l0_10 _ _ l1 true _ ?side1 ?side2 ?side3 ?side4 HF.out).mono ?_); (case side1 => exact Kd.C_alloc HR.out _); (case side2 => exact HC.out); (case side3 => exact Kd.C_alloc HR1.out _); (case side4 => exact HC1.out); rintro e' w1 ⟨rfl, hb⟩; have K1 := Aside0.mk (blk_below (blk_new w _) hb); have HB1 := Aside0.mk (below_then (below_alloc (Below.refl _ w) _) (by simp) hb); clear hb; obtain ⟨q0, q1, q2, q3, q4, q5, q6, q7, q8, q9, q10⟩ := hold_of.cells (fr := (0, 0)) K1.out) | (go_at_call 50; (with_reducible refine (hold_node.calls a0_0 a0_1 a0_2 a0_3 a0_4 a0_5 a0_6 a0_7 a0_8 a0_9 _ _ l0_10 a2 false _ ?side1 ?side2 HN.out).mono ?_); (case side1 => exact Kd.C_below HR.out HB1.out); (case side2 => exact HC.out); rintro e' w2 ⟨rfl, hb⟩; have K2 := Aside0.mk (blk_below K1.out hb); have HB2 := Aside0.mk (below_then HB1.out HB1.out.size hb); clear hb; clear q0 q1 q2 q3 q4 q5 q6 q7 q8 q9 q10; obtain ⟨q0, q1, q2, q3, q4, q5, q6, q7, q8, q9, q10⟩ := hold_of.cells (fr := (0, 0)) K2.out))
      go_ret
      exact ⟨rfl, HB2.out⟩
  · obtain rfl : b = false := by simpa using c2
    rw [if_neg c2] at h
    obtain rfl := Option.some.inj h
    clear h c2
    go_enter Try.func30, Try.ntmps30
    go_wp2_with (first | (go_at_call 49; (with_reducible refine (hold_fits.calls k a0_0 a0_1 a0_2 a0_3 a0_4 a0_5 a0_6 a0_7 a0_8 a0_9 _ _ l0_10 _ _ l1 false _ ?side1 ?side2 ?side3 ?side4 HF.out).mono ?_); (case side1 => exact Kd.C_alloc HR.out _); (case side2 => exact HC.out); (case side3 => exact Kd.C_alloc HR1.out _); (case side4 => exact HC1.out); rintro e' w1 ⟨rfl, hb⟩; have K1 := Aside0.mk (blk_below (blk_new w _) hb); have HB1 := Aside0.mk (below_then (below_alloc (Below.refl _ w) _) (by simp) hb); clear hb; obtain ⟨q0, q1, q2, q3, q4, q5, q6, q7, q8, q9, q10⟩ := hold_of.cells (fr := (0, 0)) K1.out))
    go_ret
    exact ⟨rfl, HB1.out⟩

end Go.Proofs.Ytfdkmeokfmgfhaa.X
