import Derived.RangeFuncNested
import Derived.RangeFuncBound
import Derived.RangeFuncCalls
import Derived.RangeFuncLeaves
import Derived.Shelf.Abstract
import Derived.Shelf.RegionOpen
import Derived.WalkKit
import Derived.OwnWalkIn
import Derived.TacticsInMore
import Derived.LoopNIn
import Derived.LoopIn
import Derived.Maps.AppendAt
import Derived.Laws.EntriesVeiled
import Derived.Test.YthblnnboeikgcaaYBeatSettles10
set_option maxHeartbeats 4000000
set_option maxRecDepth 100000
namespace Go.Proofs.Ythblnnboeikgcaa.B
open Go.RowKit Go.Proofs.YthblnnboeikgcaaW.PrintWords Go.Proofs.YthblnnboeikgcaaW.PrintLast Go.Proofs.YthblnnboeikgcaaW.PrintMore
attribute [local go_sem] max2_int min2_int max_two min_two max_three min_three max_four min_four   -- for this text's walks alone
set_option linter.unusedVariables false
set_option linter.unusedSimpArgs false
theorem plan_Ages.cells {W : World} {g : Nat} {t : TypeId} {c0 c1 c2 c3 c4 c5 c6 c7 c8 c9 c10 : Value} (K : W.heap[g]? = some (.cells #[c0, c1, c2, c3, c4, c5, c6, c7, c8, c9, c10] t (0, 0))) :
    W.cell? ⟨g, 0, none⟩ = some c0 ∧ W.cell? ⟨g, 1, none⟩ = some c1 ∧ W.cell? ⟨g, 2, none⟩ = some c2 ∧ W.cell? ⟨g, 3, none⟩ = some c3 ∧ W.cell? ⟨g, 4, none⟩ = some c4 ∧ W.cell? ⟨g, 5, none⟩ = some c5 ∧ W.cell? ⟨g, 6, none⟩ = some c6 ∧ W.cell? ⟨g, 7, none⟩ = some c7 ∧ W.cell? ⟨g, 8, none⟩ = some c8 ∧ W.cell? ⟨g, 9, none⟩ = some c9 ∧ W.cell? ⟨g, 10, none⟩ = some c10 :=
  ⟨(blk_cell K 0).trans rfl, (blk_cell K 1).trans rfl, (blk_cell K 2).trans rfl, (blk_cell K 3).trans rfl, (blk_cell K 4).trans rfl, (blk_cell K 5).trans rfl, (blk_cell K 6).trans rfl, (blk_cell K 7).trans rfl, (blk_cell K 8).trans rfl, (blk_cell K 9).trans rfl, (blk_cell K 10).trans rfl⟩
theorem plan_Ages.calls (k : Nat) (a0_0 a0_1 a0_2 a0_3 a0_4 a0_5 a0_6 a0_7 a0_8 a0_9 : Int) (A0_10 : Option Addr) (c0_10 : Nat) (l0_10 : List Int) (R : Int) (w : World) (hr0_10 : Kd.C (Kd.int .i64) w A0_10 l0_10.length l0_10) (hc0_10 : l0_10.length ≤ c0_10) (h : conf_Rounds.f k a0_0 a0_1 a0_2 a0_3 a0_4 a0_5 a0_6 a0_7 a0_8 a0_9 l0_10 = some R) :
    Calls Try.prog 85 #[.agg #[.int .i64 a0_0, .int .i64 a0_1, .int .i64 a0_2, .int .i64 a0_3, .int .i64 a0_4, .int .i64 a0_5, .int .i64 a0_6, .int .i64 a0_7, .int .i64 a0_8, .int .i64 a0_9, .slice A0_10 l0_10.length c0_10]] w fun e w' => ∃ b1 b2, e = .returned (.func (.func 128) #[] #[.pointer (some ⟨b1, 0, none⟩), .pointer (some ⟨b2, 0, none⟩)]) ∧ b1 < w'.heap.size ∧ b2 < w'.heap.size ∧ w.heap.size ≤ b1 ∧ w.heap.size ≤ b2 ∧ w'.cell? ⟨b1, 0, none⟩ = some (.int .i64 R) ∧ w'.cell? ⟨b2, 2, none⟩ = some (.int .i64 a0_2) ∧ Below w.heap.size w w' := by
  have HR := Sd.mk hr0_10
  have HC := Sd.mk hc0_10
  have HRN := Sd.mk h
  clear hr0_10 hc0_10 h
  go_enter Try.func85, Try.ntmps85
  go_wp2_with (first | (go_at_call 117; (with_reducible refine (conf_Rounds.calls k a0_0 a0_1 a0_2 a0_3 a0_4 a0_5 a0_6 a0_7 a0_8 a0_9 _ _ l0_10 R _ ?side1 ?side2 HRN.out).mono ?_); (case side1 => exact Kd.C_alloc HR.out _); (case side2 => exact HC.out); rintro e' w1 ⟨rfl, hb⟩; have K1 := Sd.mk (blk_below (blk_new w _) hb); have HB1 := Sd.mk (below_then (below_alloc (Below.refl _ w) _) (by simp) hb); clear hb; have ⟨q0, q1, q2, q3, q4, q5, q6, q7, q8, q9, q10⟩ := plan_Ages.cells K1.out))
  go_ret
  exact ⟨_, _, rfl, by simp, by have := blk_lt K1.out; simp; omega, HB1.out.size, Nat.le_refl _, by simp, (blk_cell (blk_alloc K1.out _) 2).trans rfl, HB1.out.alloc HB1.out.size _⟩
def plan_Ages.Kp (b1 b2 : Nat) (W W' : World) : Prop := W'.heap[b1]? = W.heap[b1]? ∧ W'.heap[b2]? = W.heap[b2]?
theorem plan_Ages.Kp.trans {b1 b2 : Nat} {A B C : World} (h : plan_Ages.Kp b1 b2 A B) (k : plan_Ages.Kp b1 b2 B C) : plan_Ages.Kp b1 b2 A C := ⟨k.1.trans h.1, k.2.trans h.2⟩
theorem plan_Ages.Kp.cell2 {b1 b2 : Nat} {A B : World} (h : plan_Ages.Kp b1 b2 A B) (o : Nat) : B.cell? ⟨b2, o, none⟩ = A.cell? ⟨b2, o, none⟩ := by simp [World.cell?, h.2]
theorem plan_Ages.Kp.book {b1 b2 : Nat} {w : World} (h1 : b1 < w.heap.size) (h2 : b2 < w.heap.size) (W : World) (l : Nat) (o o' : Obj) (hl : w.heap.size ≤ l) (_ : W.heap[l]? = some o) (_ : o.isCells = false) (_ : o.isWalk = false) : plan_Ages.Kp b1 b2 W (W.putObj l o') := ⟨World.putObj_heap_other (by omega), World.putObj_heap_other (by omega)⟩
attribute [local go_sem] Oper.semAt_some
theorem plan_Ages.iter (F : Fence) (n : Nat) (hF : F.fn 128) (hro : F.round = none) (hn : 1 ≤ n) (l b1 b2 R : Nat) (d : Int) (hR15 : R ≤ 15) (hd0 : R = 0 ∨ (0 ≤ d ∧ d ≤ 4)) (J Jx : List (Fin R) → World → Prop)
    (hY : ∀ pre (x : Fin R) W, J pre W → pre.length < R → YieldAt F (n - 1) Try.prog l #[.int .i64 (x.val : Int), .int .i64 ((x.val : Int) * d)] W fun e W' =>
      (e = .returned (.bool true) ∧ J (pre ++ [x]) W' ∧ plan_Ages.Kp b1 b2 W W') ∨ (e = .returned (.bool false) ∧ Jx (pre ++ [x]) W'))
    (W : World) (hc1 : W.cell? ⟨b1, 0, none⟩ = some (.int .i64 (R : Int))) (hc2 : W.cell? ⟨b2, 2, none⟩ = some (.int .i64 d)) (h0 : J [] W) :
    CallsIn F n Try.prog 128 #[.func (.yield l) #[] #[], .pointer (some ⟨b1, 0, none⟩), .pointer (some ⟨b2, 0, none⟩)] W fun e W' => (∃ v, e = .returned v) ∧
      ((∃ ys : List (Fin R), ys.map Fin.val = List.range R ∧ J ys W') ∨ (∃ pre : List (Fin R), (∃ k, k ≤ R ∧ pre.map Fin.val = List.range k) ∧ Jx pre W')) := by
  have hu24 := Try.underlying24
  refine callsIn_of_wp Try.func128 rfl hF ?_ hro
  simp only [Try.ntmps128, List.size_toArray, List.length_cons, List.length_nil, Nat.reduceAdd, Nat.reduceSub, Array.replicate_succ, Array.replicate_zero, List.push_toArray, List.append_toArray, List.nil_append, List.cons_append]
  gi_wp2
  gi_loopw [6] (fun i wr => ∃ k : Nat, k ≤ R ∧ i = .int .i64 k ∧ (∃ pre : List (Fin R), pre.map Fin.val = List.range k ∧ J pre wr) ∧ (wr = W ∨ plan_Ages.Kp b1 b2 W wr))
    (fun i _ => R - (intOf i).toNat)
  case atStart => exact ⟨0, Nat.zero_le _, rfl, ⟨[], rfl, h0⟩, .inl rfl⟩
  case round =>
    obtain ⟨k, hk, rfl, ⟨pre, hpre, hJs⟩, hnx⟩ := hrel
    have hcx : wr.cell? ⟨b2, 2, none⟩ = some (.int .i64 d) := by
      rcases hnx with rfl | hnx
      · exact hc2
      · exact (hnx.cell2 2).trans hc2
    have hlen : pre.length = k := by have := congrArg List.length hpre; simpa using this
    by_cases hlt : k < R
    · have hd := hd0.resolve_left (by omega)
      have hw : wrap64 ((k : Int) * d) = (k : Int) * d := by
        have : 0 ≤ (k : Int) * d ∧ (k : Int) * d ≤ 15 * 4 := ⟨Int.mul_nonneg (by omega) hd.1, Int.mul_le_mul (by omega) hd.2 hd.1 (by omega)⟩
        generalize (k : Int) * d = y at *
        simp only [wrap64]
        omega
      obtain ⟨fn, tmps, assign, body, hy, hR⟩ := hY pre ⟨k, hlt⟩ wr hJs (by rw [hlen]; exact hlt)
      dsimp only at hy
      gi_wp2
      refine hR.mono ?_
      rintro e W3 (⟨rfl, hJ3, hk3⟩ | ⟨rfl, hJx3⟩)
      · gi_wp2
        go_roundw
        case rel => exact ⟨k + 1, by omega, by simp, ⟨_, by rw [List.map_append, hpre, List.range_succ]; rfl, hJ3⟩, .inr (hnx.elim (fun e => by subst e; exact hk3) (fun h => h.trans hk3))⟩
        case measure => simp [intOf]; omega
      · gi_wp2
        refine bodyPost_ret (results_none rfl _ _ _) rfl ?_
        exact ⟨⟨_, rfl⟩, .inr ⟨_, ⟨k + 1, by omega, by rw [List.map_append, hpre, List.range_succ]; rfl⟩, hJx3⟩⟩
    · obtain rfl : k = R := by omega
      gi_wp2
      go_end0
      exact ⟨⟨_, rfl⟩, .inl ⟨_, hpre, hJs⟩⟩
theorem plan_Ages.stops (F : Fence) (n : Nat) (hF : F.fn 128) (hro : F.round = none) (hn : 1 ≤ n) (b1 b2 R : Nat) (d : Int) (hR15 : R ≤ 15) (hd : R = 0 ∨ (0 ≤ d ∧ d ≤ 4)) (w : World) (h1 : b1 < w.heap.size) (h2 : b2 < w.heap.size)
    (hc1 : w.cell? ⟨b1, 0, none⟩ = some (.int .i64 (R : Int))) (hc2 : w.cell? ⟨b2, 2, none⟩ = some (.int .i64 d)) :
    SeqStopsK F n Try.prog 128 #[.pointer (some ⟨b1, 0, none⟩), .pointer (some ⟨b2, 0, none⟩)] (fun x : Fin R => #[Value.int .i64 (x.val : Int), Value.int .i64 ((x.val : Int) * d)]) (plan_Ages.Kp b1 b2) (fun ys => ys.map Fin.val = List.range R)
      (fun pre => ∃ k, k ≤ R ∧ pre.map Fin.val = List.range k) R w := fun l J Jx W hW _ _ hY h0 =>
  plan_Ages.iter F n hF hro hn l b1 b2 R d hR15 hd J Jx hY W ((hW.cell (p := ⟨b1, 0, none⟩) h1).trans hc1) ((hW.cell (p := ⟨b2, 2, none⟩) h2).trans hc2) h0
end Go.Proofs.Ythblnnboeikgcaa.B
