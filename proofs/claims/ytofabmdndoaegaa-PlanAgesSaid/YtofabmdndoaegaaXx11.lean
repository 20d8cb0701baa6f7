-- Laid by xprint.py, a program of this session, by the kit's print over contracts of our own. Lean checks it.
import Derived.Test.YtofabmdndoaegaaRound
import Derived.RangeFuncNested
import Derived.RangeFuncBound
import Derived.RangeFuncCalls
import Derived.RangeFuncLeaves
import Derived.Shelf.Abstract
import Derived.Shelf.RegionOpen
import Derived.WalkKit
import Derived.OwnWalkIn
import Derived.TacticsInMore
import Derived.LoopNIn
import Derived.LoopIn
import Derived.Maps.AppendAt
import Derived.Test.YtofabmdndoaegaaKwords
import Derived.Test.YtofabmdndoaegaaXx0
import Derived.Test.YtofabmdndoaegaaXx3
import Derived.Test.YtofabmdndoaegaaXx8
import Derived.Test.YtofabmdndoaegaaXx9
import Derived.Test.YtofabmdndoaegaaXx10
namespace Go.Proofs.Ytofabmdndoaegaa.X
open Go.RowKit Go.Proofs.YtofabmdndoaegaaW.PrintWords Go.Proofs.YtofabmdndoaegaaW.PrintLast Go.Proofs.YtofabmdndoaegaaW.PrintMore
attribute [local go_sem] max2_int min2_int max_two min_two max_three min_three max_four min_four   -- for this text's walks alone
set_option linter.unusedVariables false
set_option linter.unusedSimpArgs false

/-! ### bellwetherlaw15_PlanAges: function 13 -/
-- stub
attribute [local go_sem] Oper.semAt_some
/-- The cells of a row of multiples. -/
def bellwetherlaw15_PlanAges.Cells (d : Int) (m : Nat) (A : Option Addr) (W : World) : Prop := m = 0 ∨ ∃ g, A = some ⟨g, 0, none⟩ ∧ g < W.heap.size ∧ ∀ j, j < m → W.cell? ⟨g, j, none⟩ = some (.int .i64 ((j : Int) * d))
theorem bellwetherlaw15_PlanAges.Cells.below {d : Int} {m : Nat} {A : Option Addr} {W W' : World} (h : bellwetherlaw15_PlanAges.Cells d m A W) (hb : Below W.heap.size W W') : bellwetherlaw15_PlanAges.Cells d m A W' := by
  rcases h with h | ⟨g, h, hlt, hc⟩
  · exact .inl h
  · exact .inr ⟨g, h, Nat.lt_of_lt_of_le hlt hb.size, fun j hj => (hb.cell (p := ⟨g, j, none⟩) hlt).trans (hc j hj)⟩
theorem bellwetherlaw15_PlanAges.Cells.alloc {d : Int} {m : Nat} {A : Option Addr} {W : World} (h : bellwetherlaw15_PlanAges.Cells d m A W) (o : Obj) : bellwetherlaw15_PlanAges.Cells d m A (W.alloc o) := h.below ((Below.refl _ W).alloc (Nat.le_refl _) _)
theorem bellwetherlaw15_PlanAges.Cells.own {β : Type} (d : Int) (m : Nat) (A : Option Addr) : Own (fun (_ : β) W => bellwetherlaw15_PlanAges.Cells d m A W) := by
  rintro s X Y row hs hg hr
  rcases hs with h | ⟨g, h, hlt, hc⟩
  · exact .inl h
  · exact .inr ⟨g, h, Nat.lt_of_lt_of_le hlt hg.size, fun j hj => cell_kept (hc j hj) hg hr⟩
theorem bellwetherlaw15_PlanAges.Cells.far {d : Int} {m : Nat} {A : Option Addr} {W : World} (h : bellwetherlaw15_PlanAges.Cells d m A W) (b : Nat) (v : Value) (hb : ∀ g, A = some ⟨g, 0, none⟩ → m = 0 ∨ g ≠ b) : bellwetherlaw15_PlanAges.Cells d m A (W.setCell ⟨b, 0, none⟩ v) := by
  rcases h with h | ⟨g, h, hlt, hc⟩
  · exact .inl h
  · rcases hb g h with h0 | hne
    · exact .inl h0
    · refine .inr ⟨g, h, by simpa using hlt, fun j hj => ?_⟩
      have := hc j hj
      simp only [World.cell?] at this ⊢
      rw [show (W.setCell ⟨b, 0, none⟩ v).heap[g]? = W.heap[g]? from Below.heap_setCell _ _ _ g (fun e => hne e)]
      exact this
theorem bellwetherlaw15_PlanAges.row_open {W : World} {base : Nat} {v : Value} {m : Nat} {d : Int} {Ls : List Int} (h : Kd.R (Kd.int .i64) 3 W base (fun _ => True) v Ls) (hL : Ls = (List.range m).map (fun (j : Nat) => (j : Int) * d)) : ∃ A c, v = .slice A m c ∧ bellwetherlaw15_PlanAges.Cells d m A W := by
  have hlen : Ls.length = m := by rw [hL]; simp
  obtain ⟨hok, inner, hown, hr⟩ := h
  rcases hown.2 with ⟨rfl, h0⟩ | ⟨g, cap, cur, rfl, _, hg, _⟩
  · exact ⟨none, 0, by rw [← hlen, h0], .inl (by omega)⟩
  · rw [hlen] at hown ⊢
    refine ⟨_, _, rfl, .inr ⟨g, rfl, (Array.getElem?_eq_some_iff.1 hg).1, fun j hj => ?_⟩⟩
    have := (Go.Proofs.Ytofabmdndoaegaa.KW.get_int (h := (show Kd.R (Kd.int .i64) 3 W base (fun _ => True) (.slice (some ⟨g, 0, none⟩) m cap) Ls from ⟨hok, inner, by rw [hlen]; exact hown, hr⟩)) hlen hj).1
    rw [this, hL]
    congr 2
    simp [rd, List.getD_eq_getElem?_getD, hj]
/-- Between two rounds. -/
def bellwetherlaw15_PlanAges.I (d a1 : Int) (m : Nat) (A : Option Addr) (c BO BL : Nat) (w : World) (C : Obj) (n3 : Nat) (pre : List (Fin m)) (W : World) : Prop :=
  Boxed W BO 3 (.int .i64 (pre.length : Int)) ∧ (Boxed W BL 33 (.slice A m c) ∧ (W.heap[w.heap.size + 1]? = some (.cells #[.int .i64 a1] 3) ∧ (W.heap[w.heap.size + 2]? = some (.cells #[.bool false] 4) ∧ (W.heap[w.heap.size]? = some C ∧ (bellwetherlaw15_PlanAges.Cells d m A W ∧ (Below w.heap.size w W ∧ n3 ≤ W.heap.size))))))
theorem bellwetherlaw15_PlanAges.I_own {d a1 : Int} {m : Nat} {A : Option Addr} {c BO BL : Nat} {w : World} {C : Obj} {n3 B : Nat} (hB : w.heap.size ≤ B) (hC : C.isCells = true) : OwnFrom B (bellwetherlaw15_PlanAges.I d a1 m A c BO BL w C n3) :=
  OwnFrom.and (Own.from (boxed_own _ _ (fun pre : List (Fin m) => .int .i64 (pre.length : Int))) _) (OwnFrom.and (Own.from (boxed_own _ _ (fun _ => .slice A m c)) _) (OwnFrom.and (Own.from (Ytofabmdndoaegaa.Round.blk_own _ _ rfl) _) (OwnFrom.and (Own.from (Ytofabmdndoaegaa.Round.blk_own _ _ rfl) _) (OwnFrom.and (Own.from (Ytofabmdndoaegaa.Round.blk_own _ _ hC) _) (OwnFrom.and (Own.from (bellwetherlaw15_PlanAges.Cells.own _ _ _) _) (OwnFrom.and (ownFrom_below (Nat.le_refl _) hB) (Ytofabmdndoaegaa.Round.ownFrom_size _ _)))))))
/-- Where a round has left: by a return (a pair that is not the next one), or by a break. -/
def bellwetherlaw15_PlanAges.Ix (d a1 : Int) (m : Nat) (A : Option Addr) (c BO BL : Nat) (w : World) (C : Obj) (n3 : Nat) (j : Code) (pre : List (Fin m)) (W : World) : Prop :=
  (∃ (p : List (Fin m)) (x : Fin m), pre = p ++ [x] ∧ x.val ≠ p.length) ∨ (j = .exit 0 ∧ (pre.length : Int) = a1 ∧ bellwetherlaw15_PlanAges.I d a1 m A c BO BL w C n3 pre W)
theorem bellwetherlaw15_PlanAges.Ix_own {d a1 : Int} {m : Nat} {A : Option Addr} {c BO BL : Nat} {w : World} {C : Obj} {n3 B : Nat} (h : OwnFrom B (bellwetherlaw15_PlanAges.I d a1 m A c BO BL w C n3)) (j : Code) : OwnFrom B (bellwetherlaw15_PlanAges.Ix d a1 m A c BO BL w C n3 j) := by
  intro s X Y row hs hg hr
  rcases hs with hs | ⟨h1, h2, h3⟩
  · exact .inl hs
  · exact .inr ⟨h1, h2, h s X Y row h3 hg hr⟩
theorem bellwetherlaw15_PlanAges.I_step {d a1 : Int} {m : Nat} {A : Option Addr} {c BO BL : Nat} {w : World} {C : Obj} {n3 : Nat} {pre : List (Fin m)} {W : World} (x : Fin m) (h : bellwetherlaw15_PlanAges.I d a1 m A c BO BL w C n3 pre W) (h1 : BO ≠ BL) (h2 : BO ≠ w.heap.size + 1) (h3 : BO ≠ w.heap.size + 2) (h4 : BO ≠ w.heap.size) (h5 : w.heap.size ≤ BO)
    (hA : ∀ g, A = some ⟨g, 0, none⟩ → m = 0 ∨ g ≠ BO) : bellwetherlaw15_PlanAges.I d a1 m A c BO BL w C n3 (pre ++ [x]) (W.setCell ⟨BO, 0, none⟩ (.int .i64 ((pre.length : Int) + 1))) := by
  obtain ⟨hO, hL, hS, hR, hC, hCl, hB, hz⟩ := h
  refine ⟨?_, hL.other (Ne.symm h1) _, (Below.heap_setCell _ _ _ _ (fun e => h2 e.symm)).trans hS, (Below.heap_setCell _ _ _ _ (fun e => h3 e.symm)).trans hR, (Below.heap_setCell _ _ _ _ (fun e => h4 e.symm)).trans hC, hCl.far _ _ hA, hB.setCell (p := ⟨BO, 0, none⟩) h5 _, by simpa using hz⟩
  have := hO.set (.int .i64 ((pre.length : Int) + 1))
  rw [List.length_append]
  exact this
theorem bellwetherlaw15_PlanAges.next_one {m : Nat} {p : List (Fin m)} {x : Fin m} {k : Nat} (h : (p ++ [x]).map Fin.val = List.range k) : x.val = p.length := by
  have hk : k = p.length + 1 := by have := congrArg List.length h; simpa using this.symm
  subst hk
  rw [List.map_append, List.range_succ] at h
  have := (List.append_inj' h rfl).2
  simpa using this
def bellwetherlaw15_PlanAges.ok (d R : Int) (Ls : List Int) (kn : Bool) : Prop := 0 ≤ R ∧ R ≤ 15 ∧ (R = 0 ∨ (0 ≤ d ∧ d ≤ 4)) ∧ Ls = (List.range R.toNat).map (fun (j : Nat) => (j : Int) * d) ∧ kn = true
instance (d R : Int) (Ls : List Int) (kn : Bool) : Decidable (bellwetherlaw15_PlanAges.ok d R Ls kn) := by unfold bellwetherlaw15_PlanAges.ok; infer_instance
def bellwetherlaw15_PlanAges.f (k : Nat) (a0_0 a0_1 a0_2 a0_3 a0_4 a0_5 a0_6 a0_7 a0_8 a0_9 : Int) (l0_10 : List Int) (a1 : Int) : Option Bool := (bellwetherref15_Ages.f k a0_0 a0_1 a0_2 a0_3 a0_4 a0_5 a0_6 a0_7 a0_8 a0_9 l0_10).bind fun Ls => (conf_Rounds.f k a0_0 a0_1 a0_2 a0_3 a0_4 a0_5 a0_6 a0_7 a0_8 a0_9 l0_10).bind fun R => (bellwetherlaw15_known.f k).bind fun kn => if bellwetherlaw15_PlanAges.ok a0_2 R Ls kn then some true else none
set_option maxHeartbeats 8000000 in
set_option maxRecDepth 100000 in
theorem bellwetherlaw15_PlanAges.calls (k : Nat) (a0_0 : Int) (a0_1 : Int) (a0_2 : Int) (a0_3 : Int) (a0_4 : Int) (a0_5 : Int) (a0_6 : Int) (a0_7 : Int) (a0_8 : Int) (a0_9 : Int) (A0_10 : Option Addr) (c0_10 : Nat) (l0_10 : List Int) (a1 : Int) (r : Bool) (w : World) (hr0_10 : Kd.C (Kd.int .i64) w A0_10 l0_10.length l0_10) (hc0_10 : l0_10.length ≤ c0_10) (h : bellwetherlaw15_PlanAges.f k a0_0 a0_1 a0_2 a0_3 a0_4 a0_5 a0_6 a0_7 a0_8 a0_9 l0_10 a1 = some r) (hT : Aside0 (r = true) := by first | exact ⟨rfl⟩ | assumption) :
    Calls Try.prog 13 #[.agg #[.int .i64 a0_0, .int .i64 a0_1, .int .i64 a0_2, .int .i64 a0_3, .int .i64 a0_4, .int .i64 a0_5, .int .i64 a0_6, .int .i64 a0_7, .int .i64 a0_8, .int .i64 a0_9, .slice A0_10 l0_10.length c0_10], .int .i64 a1] w fun e w' => e = .returned (.bool r) ∧ Below w.heap.size w w' := by
  have HR := Aside0.mk hr0_10
  have HC := Aside0.mk hc0_10
  clear hr0_10 hc0_10
  unfold bellwetherlaw15_PlanAges.f at h
  obtain ⟨Ls, hls, h⟩ := Option.bind_eq_some_iff.mp h
  obtain ⟨R, hR, h⟩ := Option.bind_eq_some_iff.mp h
  obtain ⟨kn, hkn, h⟩ := Option.bind_eq_some_iff.mp h
  by_cases d1 : bellwetherlaw15_PlanAges.ok a0_2 R Ls kn
  case neg => rw [if_neg d1] at h; cases h
  clear h
  obtain rfl : r = true := hT.out
  obtain ⟨hR0, hR15, hRd, hLs, rfl⟩ := d1
  obtain ⟨m, rfl⟩ := Int.eq_ofNat_of_zero_le hR0
  rw [Int.toNat_natCast] at hLs
  have HLS := Aside0.mk hls
  have HRN := Aside0.mk hR
  have HKN := Aside0.mk hkn
  have HLE := Aside0.mk hLs
  have HM : Aside0 (m ≤ 15) := ⟨by omega⟩
  have HD : Aside0 (m = 0 ∨ (0 ≤ a0_2 ∧ a0_2 ≤ 4)) := ⟨hRd.imp (by omega) id⟩
  clear hls hR hkn hLs hR0 hR15 hRd
  refine (callsIn_wide (n := 3)).1 (callsIn_of_wp_marks Try.func13 rfl trivial (wpIn_wide.2 ?_) rfl)
  simp only [Try.ntmps13, List.size_toArray, List.length_cons, List.length_nil, Nat.reduceAdd, Nat.reduceSub, Array.replicate_succ, Array.replicate_zero, List.push_toArray, List.append_toArray, List.nil_append, List.cons_append]
  have hnf : ∀ (l : Array Value) (w : World), (binOp .eql 44 (.func (.func 51) #[] l) .nilFunc).run Try.prog w = .ok (.bool false) w := fun _ _ => rfl
  go_wp2_with (first | (go_at_call 37; (with_reducible refine (bellwetherref15_Ages.calls k a0_0 a0_1 a0_2 a0_3 a0_4 a0_5 a0_6 a0_7 a0_8 a0_9 _ _ l0_10 Ls _ ?side1 ?side2 HLS.out).mono ?_); (case side1 => exact Kd.C_alloc (Kd.C_alloc (Kd.C_alloc HR.out _) _) _); (case side2 => exact HC.out); rintro e' w1 ⟨v0, rfl, hrow, hb⟩; obtain ⟨A, c, e0, hcells⟩ := bellwetherlaw15_PlanAges.row_open hrow HLE.out; subst e0; have HCL1 := Aside0.mk hcells; have KC1 := Aside0.mk (blk_below (blk_alloc (blk_alloc (blk_new w _) _) _) hb); have KS1 : Aside0 (w1.heap[w.heap.size + 1]? = some (.cells #[.int .i64 a1] 3)) := ⟨by have h9 := blk_new (w.alloc (.cells #[.int .i64 a0_0, .int .i64 a0_1, .int .i64 a0_2, .int .i64 a0_3, .int .i64 a0_4, .int .i64 a0_5, .int .i64 a0_6, .int .i64 a0_7, .int .i64 a0_8, .int .i64 a0_9, .slice A0_10 l0_10.length c0_10] 35)) (.cells #[.int .i64 a1] 3); rw [World.size_alloc] at h9; exact blk_below (blk_alloc h9 _) hb⟩; have KR1 : Aside0 (w1.heap[w.heap.size + 2]? = some (.cells #[.bool false] 4)) := ⟨by have h9 := blk_new ((w.alloc (.cells #[.int .i64 a0_0, .int .i64 a0_1, .int .i64 a0_2, .int .i64 a0_3, .int .i64 a0_4, .int .i64 a0_5, .int .i64 a0_6, .int .i64 a0_7, .int .i64 a0_8, .int .i64 a0_9, .slice A0_10 l0_10.length c0_10] 35)).alloc (.cells #[.int .i64 a1] 3)) (.cells #[.bool false] 4); rw [World.size_alloc, World.size_alloc] at h9; exact blk_below h9 hb⟩; have HB1 := Aside0.mk (below_then (((below_alloc (Below.refl _ w) _).alloc (by simp) _).alloc (by simp; omega) _) (by simp; omega) hb); clear hb hrow hcells; have q0 : w1.cell? ⟨w.heap.size, 0, none⟩ = some (.int .i64 a0_0) := (blk_cell KC1.out 0).trans rfl; have q1 : w1.cell? ⟨w.heap.size, 1, none⟩ = some (.int .i64 a0_1) := (blk_cell KC1.out 1).trans rfl; have q2 : w1.cell? ⟨w.heap.size, 2, none⟩ = some (.int .i64 a0_2) := (blk_cell KC1.out 2).trans rfl; have q3 : w1.cell? ⟨w.heap.size, 3, none⟩ = some (.int .i64 a0_3) := (blk_cell KC1.out 3).trans rfl; have q4 : w1.cell? ⟨w.heap.size, 4, none⟩ = some (.int .i64 a0_4) := (blk_cell KC1.out 4).trans rfl; have q5 : w1.cell? ⟨w.heap.size, 5, none⟩ = some (.int .i64 a0_5) := (blk_cell KC1.out 5).trans rfl; have q6 : w1.cell? ⟨w.heap.size, 6, none⟩ = some (.int .i64 a0_6) := (blk_cell KC1.out 6).trans rfl; have q7 : w1.cell? ⟨w.heap.size, 7, none⟩ = some (.int .i64 a0_7) := (blk_cell KC1.out 7).trans rfl; have q8 : w1.cell? ⟨w.heap.size, 8, none⟩ = some (.int .i64 a0_8) := (blk_cell KC1.out 8).trans rfl; have q9 : w1.cell? ⟨w.heap.size, 9, none⟩ = some (.int .i64 a0_9) := (blk_cell KC1.out 9).trans rfl; have q10 : w1.cell? ⟨w.heap.size, 10, none⟩ = some (.slice A0_10 l0_10.length c0_10) := (blk_cell KC1.out 10).trans rfl; have hl0 : w.heap.size < w1.heap.size := blk_lt KC1.out; have hl1 : w.heap.size + 1 < w1.heap.size := blk_lt KS1.out; have hl2 : w.heap.size + 2 < w1.heap.size := blk_lt KR1.out) | (go_at_call 38; (with_reducible refine (plan_Ages.calls k a0_0 a0_1 a0_2 a0_3 a0_4 a0_5 a0_6 a0_7 a0_8 a0_9 _ _ l0_10 _ _ ?side1 ?side2 HRN.out).mono ?_); (case side1 => exact Kd.C_below HR.out (HB1.out.alloc HB1.out.size _)); (case side2 => exact HC.out); rintro e' w2 ⟨b1, b2, rfl, hb1_, hb2_, hl1_, hl2_, hc1_, hc2_, hb⟩; have KC2 := Aside0.mk (blk_below (blk_alloc KC1.out _) hb); have KS2 := Aside0.mk (blk_below (blk_alloc KS1.out _) hb); have KR2 := Aside0.mk (blk_below (blk_alloc KR1.out _) hb); have KL2 : Aside0 (Boxed w2 w1.heap.size 33 (.slice A m c)) := ⟨blk_below (blk_new w1 _) hb⟩; have HCL2 : Aside0 (bellwetherlaw15_PlanAges.Cells a0_2 m A w2) := ⟨bellwetherlaw15_PlanAges.Cells.below (bellwetherlaw15_PlanAges.Cells.alloc HCL1.out _) hb⟩; have HB2 := Aside0.mk (below_then (HB1.out.alloc HB1.out.size _) (by rw [World.size_alloc]; exact Nat.le_succ_of_le HB1.out.size) hb); have HS2 : Aside0 (w1.heap.size + 1 ≤ w2.heap.size) := ⟨by have h9 := hb.size; rwa [World.size_alloc] at h9⟩; have HL1_ := Aside0.mk hl1_; have HL2_ := Aside0.mk hl2_; have HW1 : Aside0 (w.heap.size + 2 < w1.heap.size) := ⟨hl2⟩; have HB1_ := Aside0.mk hb1_; have HB2_ := Aside0.mk hb2_; have HC1_ := Aside0.mk hc1_; have HC2_ := Aside0.mk hc2_; clear hb hl1_ hl2_ hb1_ hb2_ hc1_ hc2_ q0 q1 q2 q3 q4 q5 q6 q7 q8 q9 q10 hl0 hl1 hl2; have hl0 : w.heap.size < w2.heap.size := blk_lt KC2.out; have hl1 : w.heap.size + 1 < w2.heap.size := blk_lt KS2.out; have hl2 : w.heap.size + 2 < w2.heap.size := blk_lt KR2.out))
  have hb1 : b1 < (w2.alloc (.cells #[.int .i64 0] 3)).heap.size := by rw [World.size_alloc]; exact Nat.lt_succ_of_lt HB1_.out
  have hb2 : b2 < (w2.alloc (.cells #[.int .i64 0] 3)).heap.size := by rw [World.size_alloc]; exact Nat.lt_succ_of_lt HB2_.out
  have hc1 : (w2.alloc (.cells #[.int .i64 0] 3)).cell? ⟨b1, 0, none⟩ = some (.int .i64 (m : Int)) := pw_cell_below (below_alloc (Below.refl _ _) _) HC1_.out
  have hc2 : (w2.alloc (.cells #[.int .i64 0] 3)).cell? ⟨b2, 2, none⟩ = some (.int .i64 a0_2) := pw_cell_below (below_alloc (Below.refl _ _) _) HC2_.out
  have bO := blk_new w2 (.cells #[.int .i64 0] 3)
  have KC3 := Aside0.mk (blk_alloc KC2.out (.cells #[.int .i64 0] 3))
  have KS3 := Aside0.mk (blk_alloc KS2.out (.cells #[.int .i64 0] 3))
  have KR3 := Aside0.mk (blk_alloc KR2.out (.cells #[.int .i64 0] 3))
  have KL3 := Aside0.mk (KL2.out.alloc (.cells #[.int .i64 0] 3))
  have HCL3 := Aside0.mk (HCL2.out.alloc (.cells #[.int .i64 0] 3))
  have HB3 := Aside0.mk (HB2.out.alloc HB2.out.size (.cells #[.int .i64 0] 3))
  have HSZ : Aside0 ((w2.alloc (.cells #[.int .i64 0] 3)).heap.size = w2.heap.size + 1) := ⟨World.size_alloc _ _⟩
  have KO3 : Aside0 (Boxed (w2.alloc (.cells #[.int .i64 0] 3)) w2.heap.size 3 (.int .i64 0)) := ⟨bO⟩
  have HNI : Aside0 (∀ g, A = some ⟨g, 0, none⟩ → m = 0 ∨ (g ≠ w2.heap.size ∧ g ≠ w.heap.size + 2)) := ⟨by
    intro g hg
    rcases Nat.eq_zero_or_pos m with h0 | h0
    · exact .inl h0
    rcases HCL1.out with h | ⟨g', h, hlt, hc⟩
    · exact .inl h
    · rw [hg] at h
      cases h
      refine .inr ⟨by have := HS2.out; omega, fun e => ?_⟩
      subst e
      have h1 := hc 0 h0
      have h2 := blk_cell KR1.out 0
      rw [h1] at h2
      cases h2⟩
  clear bO
  generalize w2.alloc (.cells #[.int .i64 0] 3) = w3 at hb1 hb2 hc1 hc2 KC3 KS3 KR3 KL3 HCL3 HB3 HSZ KO3 ⊢
  refine (wpIn_wide (n := 3)).1 ?_
  have hI : OwnFrom w3.heap.size (bellwetherlaw15_PlanAges.I a0_2 a1 m A c (w2.heap.size) (w1.heap.size) w (.cells #[.int .i64 a0_0, .int .i64 a0_1, .int .i64 a0_2, .int .i64 a0_3, .int .i64 a0_4, .int .i64 a0_5, .int .i64 a0_6, .int .i64 a0_7, .int .i64 a0_8, .int .i64 a0_9, .slice A0_10 l0_10.length c0_10] 35) w3.heap.size) := bellwetherlaw15_PlanAges.I_own (HB3.out.size) (by rfl)
  refine wpIn_rangeFunc_ownG (F := Fence.wide) rfl (by decide : 1 ≤ 3) (gf := 51) (lb := #[.pointer (some ⟨b1, 0, none⟩), .pointer (some ⟨b2, 0, none⟩)]) rfl trivial (enters_of Try.func51 (by kernel_rfl) rfl)
    (plan_Ages.stops Fence.wide 2 trivial rfl (by decide) b1 b2 m a0_2 HM.out HD.out w3 hb1 hb2 hc1 hc2) plan_Ages.Kp.trans (plan_Ages.Kp.book hb1 hb2) (Below.refl _ _) (fun _ => rfl)
    (bellwetherlaw15_PlanAges.I a0_2 a1 m A c (w2.heap.size) (w1.heap.size) w (.cells #[.int .i64 a0_0, .int .i64 a0_1, .int .i64 a0_2, .int .i64 a0_3, .int .i64 a0_4, .int .i64 a0_5, .int .i64 a0_6, .int .i64 a0_7, .int .i64 a0_8, .int .i64 a0_9, .slice A0_10 l0_10.length c0_10] 35) w3.heap.size)
    (bellwetherlaw15_PlanAges.Ix a0_2 a1 m A c (w2.heap.size) (w1.heap.size) w (.cells #[.int .i64 a0_0, .int .i64 a0_1, .int .i64 a0_2, .int .i64 a0_3, .int .i64 a0_4, .int .i64 a0_5, .int .i64 a0_6, .int .i64 a0_7, .int .i64 a0_8, .int .i64 a0_9, .slice A0_10 l0_10.length c0_10] 35) w3.heap.size)
    hI (fun cc => bellwetherlaw15_PlanAges.Ix_own hI cc)
    ⟨KO3.out, KL3.out, KS3.out, KR3.out, KC3.out, HCL3.out, HB3.out, Nat.le_refl _⟩
    ?a1 ?assign ?body ?done ?stop
  case assign =>
    intro l x W K hK
    gi_wp2
    exact hK
  case body =>
    rintro l pre x W ⟨hO, hL, hS, hR_, hC, hCl, hB, hz⟩ hlt
    have hob := hO.cell
    have hof := hO.frozen
    have hlb := hL.cell
    have hsb := blk_cell hS 0
    have hrb := blk_cell hR_ 0
    have hrf := blk_frozen hR_ 0
    have hxm := x.isLt
    have hm15 := HM.out
    have HII : Aside0 (bellwetherlaw15_PlanAges.I a0_2 a1 m A c (w2.heap.size) (w1.heap.size) w (.cells #[.int .i64 a0_0, .int .i64 a0_1, .int .i64 a0_2, .int .i64 a0_3, .int .i64 a0_4, .int .i64 a0_5, .int .i64 a0_6, .int .i64 a0_7, .int .i64 a0_8, .int .i64 a0_9, .slice A0_10 l0_10.length c0_10] 35) w3.heap.size pre W) := ⟨⟨hO, hL, hS, hR_, hC, hCl, hB, hz⟩⟩
    by_cases hx : x.val = pre.length
    · have hsb' : W.cell? ⟨w.heap.size + 1, 0, none⟩ = some (.int .i64 a1) := hsb.trans rfl
      rcases hCl with h0 | ⟨g, hA, hgl, hcl⟩
      · exact absurd h0 (by omega)
      have hcx := hcl x.val hxm
      rw [← hx] at hob
      have HXX := Aside0.mk hx
      subst hA
      have t1 : decide ((m : Int) ≤ (x.val : Int)) = false := decide_eq_false (by omega)
      have t2 : ((x.val : Int) < (m : Int)) := by omega
      have t3 : 0 ≤ (x.val : Int) := by omega
      have HW2 : Aside0 (w2.heap.size ≠ w1.heap.size ∧ w2.heap.size ≠ w.heap.size + 1 ∧ w2.heap.size ≠ w.heap.size + 2 ∧ w2.heap.size ≠ w.heap.size ∧ w.heap.size ≤ w2.heap.size ∧ w2.heap.size ≠ b1 ∧ w2.heap.size ≠ b2) := ⟨by
        have h1 := HS2.out
        have h2 := HW1.out
        have h3 := HB1_.out
        have h4 := HB2_.out
        exact ⟨by omega, by omega, by omega, by omega, by omega, by omega, by omega⟩⟩
      have hne1 : ¬ w2.heap.size = w.heap.size + 1 := HW2.out.2.1
      have hne2 : ¬ w.heap.size + 1 = w2.heap.size := fun e => HW2.out.2.1 e.symm
      clear hO hL hS hR_ hC hB hcl hx
      have HST := bellwetherlaw15_PlanAges.I_step x HII.out HW2.out.1 HW2.out.2.1 HW2.out.2.2.1 HW2.out.2.2.2.1 HW2.out.2.2.2.2.1 (fun g hg => (HNI.out g hg).imp id And.left)
      rw [← HXX.out] at HST
      have HST := Aside0.mk HST
      have HKP : Aside0 (plan_Ages.Kp b1 b2 W (W.setCell ⟨w2.heap.size, 0, none⟩ (.int .i64 ((x.val : Int) + 1)))) := ⟨⟨Below.heap_setCell _ _ _ _ (fun e => HW2.out.2.2.2.2.2.1 e.symm), Below.heap_setCell _ _ _ _ (fun e => HW2.out.2.2.2.2.2.2 e.symm)⟩⟩
      by_cases hst : (x.val : Int) + 1 = a1
      · have t4 : ((x.val : Int) + 1 == a1) = true := beq_iff_eq.mpr hst
        have HSS := Aside0.mk hst
        clear hst
        gi_wp2
        exact ⟨(KeepsOthers.setCell _ _ _).from _, .inr ⟨rfl, by rw [List.length_append, ← HXX.out]; exact HSS.out, HST.out⟩⟩
      · have t4 : ((x.val : Int) + 1 == a1) = false := beq_eq_false_iff_ne.mpr hst
        clear hst
        gi_wp2
        exact ⟨(KeepsOthers.setCell _ _ _).from _, HKP.out, HST.out⟩
    · have t1 : decide ((m : Int) ≤ (pre.length : Int)) = false := decide_eq_false (by omega)
      have t2 : ((x.val : Int) != (pre.length : Int)) = true := bne_iff_ne.mpr (by omega)
      have t3 : ((x.val : Int) == (pre.length : Int)) = false := beq_eq_false_iff_ne.mpr (by omega)
      have HXX := Aside0.mk hx
      clear hO hL hS hR_ hC hCl hB hx
      gi_wp2
      exact ⟨(KeepsOthers.setCell _ _ _).from _, .inl ⟨pre, x, rfl, HXX.out⟩⟩
  case done =>
    rintro D ys W hD hys ⟨hO, hL, hS, hR_, hC, hCl, hB, hz⟩ hK
    have hl : ys.length = m := by have := congrArg List.length hys; simpa using this
    rw [hl] at hO
    have hob := hO.cell
    have hlb := hL.cell
    have HRR := Aside0.mk hR_
    have HK := Aside0.mk hK
    have HDD := Aside0.mk hD
    have HBW := Aside0.mk hB
    clear hO hL hS hR_ hC hCl hB hK hD hl hys
    go_wp2_with (first | (go_at_call 36; (with_reducible refine (bellwetherlaw15_known.calls k true _ HKN.out).mono ?_); rintro e' w7 ⟨rfl, hb⟩; have HB7 := Aside0.mk hb; have hr7 := blk_cell (blk_below HRR.out hb) 0; have hf7 := blk_frozen (blk_below HRR.out hb) 0; clear hb))
    have hK7 := (HB7.out.block D (Array.getElem?_eq_some_iff.1 HK.out).1).trans HK.out
    have hK8 : (w7.setCell ⟨w.heap.size + 2, 0, none⟩ (.bool true)).heap[D]? = some (.deferred (some [])) := (KeepsOthers.setCell w7 ⟨w.heap.size + 2, 0, none⟩ (.bool true)).same D _ hK7 rfl
    refine ⟨by simp, .inl ⟨_, _, rfl, run_takeDeferred hK8, ?_⟩⟩
    have hc5 := cell_kept (World.cell?_setCell_same' w7 ⟨w.heap.size + 2, 0, none⟩ (.bool true) (by rw [hr7]; rfl)) (grownBy_putObj' _ D (.deferred none)) (fun r e => by cases e; exact ⟨_, hK8, rfl⟩)
    refine ⟨.bool true, ?_, rfl, ?_⟩
    · simp [results, Try.f13, go_sem, hc5]
    · exact (HBW.out.trans ((HB7.out.mono HBW.out.size).setCell (p := ⟨w.heap.size + 2, 0, none⟩) (by show w.heap.size ≤ w.heap.size + 2; omega) _)).trans (belowK_b (w := w) (Nat.le_refl _) _ D _ _ (Nat.le_trans HB3.out.size HDD.out) hK8 rfl rfl)
  case stop =>
    rintro D c pre W hD hSp hIx hK
    rcases hIx with ⟨p, x, rfl, hne⟩ | ⟨rfl, hst, hO, hL, hS, hR_, hC, hCl, hB, hz⟩
    · obtain ⟨k', _, hk'⟩ := hSp
      exact absurd (bellwetherlaw15_PlanAges.next_one hk') hne
    · have hob := hO.cell
      have hlb := hL.cell
      have hsb : W.cell? ⟨w.heap.size + 1, 0, none⟩ = some (.int .i64 a1) := (blk_cell hS 0).trans rfl
      have HRR := Aside0.mk hR_
      have HK := Aside0.mk hK
      have HDD := Aside0.mk hD
      have HBW := Aside0.mk hB
      have t4 : ((pre.length : Int) == a1) = true := beq_iff_eq.mpr hst
      clear hO hL hS hR_ hC hCl hB hK hD hst
      refine (wpIn_wide (n := 3)).2 ?_
      by_cases hl : (pre.length : Int) = (m : Int)
      · have t5 : ((pre.length : Int) == (m : Int)) = true := beq_iff_eq.mpr hl
        clear hl
        go_wp2_with (first | (go_at_call 36; (with_reducible refine (bellwetherlaw15_known.calls k true _ HKN.out).mono ?_); rintro e' w7 ⟨rfl, hb⟩; have HB7 := Aside0.mk hb; have hr7 := blk_cell (blk_below HRR.out hb) 0; have hf7 := blk_frozen (blk_below HRR.out hb) 0; clear hb))
        all_goals
          have hK7 := (HB7.out.block D (Array.getElem?_eq_some_iff.1 HK.out).1).trans HK.out
          have hK8 : (w7.setCell ⟨w.heap.size + 2, 0, none⟩ (.bool true)).heap[D]? = some (.deferred (some [])) := (KeepsOthers.setCell w7 ⟨w.heap.size + 2, 0, none⟩ (.bool true)).same D _ hK7 rfl
          refine ⟨by simp, .inl ⟨_, _, rfl, run_takeDeferred hK8, ?_⟩⟩
          have hc5 := cell_kept (World.cell?_setCell_same' w7 ⟨w.heap.size + 2, 0, none⟩ (.bool true) (by rw [hr7]; rfl)) (grownBy_putObj' _ D (.deferred none)) (fun r e => by cases e; exact ⟨_, hK8, rfl⟩)
          refine ⟨.bool true, ?_, rfl, ?_⟩
          · simp [results, Try.f13, go_sem, hc5]
          · exact (HBW.out.trans ((HB7.out.mono HBW.out.size).setCell (p := ⟨w.heap.size + 2, 0, none⟩) (by show w.heap.size ≤ w.heap.size + 2; omega) _)).trans (belowK_b (w := w) (Nat.le_refl _) _ D _ _ (Nat.le_trans HB3.out.size HDD.out) hK8 rfl rfl)
      · have t5 : ((pre.length : Int) == (m : Int)) = false := beq_eq_false_iff_ne.mpr hl
        clear hl
        go_wp2_with (first | (go_at_call 36; (with_reducible refine (bellwetherlaw15_known.calls k true _ HKN.out).mono ?_); rintro e' w7 ⟨rfl, hb⟩; have HB7 := Aside0.mk hb; have hr7 := blk_cell (blk_below HRR.out hb) 0; have hf7 := blk_frozen (blk_below HRR.out hb) 0; clear hb))
        all_goals
          have hK7 := (HB7.out.block D (Array.getElem?_eq_some_iff.1 HK.out).1).trans HK.out
          have hK8 : (w7.setCell ⟨w.heap.size + 2, 0, none⟩ (.bool true)).heap[D]? = some (.deferred (some [])) := (KeepsOthers.setCell w7 ⟨w.heap.size + 2, 0, none⟩ (.bool true)).same D _ hK7 rfl
          refine ⟨by simp, .inl ⟨_, _, rfl, run_takeDeferred hK8, ?_⟩⟩
          have hc5 := cell_kept (World.cell?_setCell_same' w7 ⟨w.heap.size + 2, 0, none⟩ (.bool true) (by rw [hr7]; rfl)) (grownBy_putObj' _ D (.deferred none)) (fun r e => by cases e; exact ⟨_, hK8, rfl⟩)
          refine ⟨.bool true, ?_, rfl, ?_⟩
          · simp [results, Try.f13, go_sem, hc5]
          · exact (HBW.out.trans ((HB7.out.mono HBW.out.size).setCell (p := ⟨w.heap.size + 2, 0, none⟩) (by show w.heap.size ≤ w.heap.size + 2; omega) _)).trans (belowK_b (w := w) (Nat.le_refl _) _ D _ _ (Nat.le_trans HB3.out.size HDD.out) hK8 rfl rfl)

end Go.Proofs.Ytofabmdndoaegaa.X
