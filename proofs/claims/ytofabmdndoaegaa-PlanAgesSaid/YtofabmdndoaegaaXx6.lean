-- Laid by xprint.py, a program of this session, by the kit's print over contracts of our own. Lean checks it.
import Derived.Test.YtofabmdndoaegaaXx0
import Derived.Test.YtofabmdndoaegaaXx4
import Derived.Test.YtofabmdndoaegaaXx5
namespace Go.Proofs.Ytofabmdndoaegaa.X
open Go.RowKit Go.Proofs.YtofabmdndoaegaaW.PrintWords Go.Proofs.YtofabmdndoaegaaW.PrintLast Go.Proofs.YtofabmdndoaegaaW.PrintMore
attribute [local go_sem] max2_int min2_int max_two min_two max_three min_three max_four min_four   -- for this text's walks alone
set_option linter.unusedVariables false
set_option linter.unusedSimpArgs false

/-! ### bellwetherref03_Plain: function 22 -/
mutual
def bellwetherref03_Plain.j0 : Nat → Bool → Int → Int → Int → Int → Int → Int → Int → Int → Int → Int → List Int → Option (Int)
 | 0, _, _, _, _, _, _, _, _, _, _, _, _ => none
 | k + 1, x20, x132000, x132001, x132002, x132003, x132004, x132005, x132006, x132007, x132008, x132009, x132010 => if x20 = true then (some 7) else ((bellwetherref03_within.f x132002 1 4).bind fun t134 => (if t134 = true then ((bellwetherref03_within.f x132003 (wrap64 ((wrap64 ((wrap64 (6 * (wrap64 (x132001 + 1)))) * x132002)) + 1)) 400).bind fun t135 => (if t135 = true then ((bellwetherref03_within.f x132004 1 64).bind fun t136 => (if t136 = true then ((bellwetherref03_within.f x132005 0 (wrap64 (x132004 - 1))).bind fun t137 => (if t137 = true then ((bellwetherref03_within.f x132006 0 30000).bind fun t138 => (if t138 = true then ((bellwetherref03_within.f x132007 1 30000).bind fun t139 => (if t139 = true then ((bellwetherref03_within.f x132008 2 250).bind fun t140 => (if t140 = true then ((bellwetherref03_within.f x132009 1 100).bind fun t141 => (bellwetherref03_Plain.j1 k (!t141) x132000 x132001 x132002 x132003 x132004 x132005 x132006 x132007 x132008 x132009 x132010)) else (bellwetherref03_Plain.j1 k true x132000 x132001 x132002 x132003 x132004 x132005 x132006 x132007 x132008 x132009 x132010))) else (bellwetherref03_Plain.j1 k true x132000 x132001 x132002 x132003 x132004 x132005 x132006 x132007 x132008 x132009 x132010))) else (bellwetherref03_Plain.j1 k true x132000 x132001 x132002 x132003 x132004 x132005 x132006 x132007 x132008 x132009 x132010))) else (bellwetherref03_Plain.j1 k true x132000 x132001 x132002 x132003 x132004 x132005 x132006 x132007 x132008 x132009 x132010))) else (bellwetherref03_Plain.j1 k true x132000 x132001 x132002 x132003 x132004 x132005 x132006 x132007 x132008 x132009 x132010))) else (bellwetherref03_Plain.j1 k true x132000 x132001 x132002 x132003 x132004 x132005 x132006 x132007 x132008 x132009 x132010))) else (some 10)))
def bellwetherref03_Plain.j1 : Nat → Bool → Int → Int → Int → Int → Int → Int → Int → Int → Int → Int → List Int → Option (Int)
 | 0, _, _, _, _, _, _, _, _, _, _, _, _ => none
 | k + 1, x75, x132000, x132001, x132002, x132003, x132004, x132005, x132006, x132007, x132008, x132009, x132010 => if x75 = true then (some 8) else ((bellwetherref03_within.f (x132010.length : Int) 1 32).bind fun t142 => (if t142 = true then ((bellwetherref03_owned.f k x132000 x132001 x132002 x132003 x132004 x132005 x132006 x132007 x132008 x132009 x132010).bind fun t143 => (if t143 = true then (some 0) else (some 11))) else (some 11)))
end
def bellwetherref03_Plain.f (k : Nat) (a0_0 : Int) (a0_1 : Int) (a0_2 : Int) (a0_3 : Int) (a0_4 : Int) (a0_5 : Int) (a0_6 : Int) (a0_7 : Int) (a0_8 : Int) (a0_9 : Int) (l0_10 : List Int) : Option (Int) := (bellwetherref03_within.f a0_0 4 13).bind fun t132 => (if t132 = true then ((bellwetherref03_within.f a0_1 0 4).bind fun t133 => (if t133 = true then (bellwetherref03_Plain.j0 k (decide (a0_0 ≤ (wrap64 (3 * a0_1)))) a0_0 a0_1 a0_2 a0_3 a0_4 a0_5 a0_6 a0_7 a0_8 a0_9 l0_10) else (bellwetherref03_Plain.j0 k true a0_0 a0_1 a0_2 a0_3 a0_4 a0_5 a0_6 a0_7 a0_8 a0_9 l0_10))) else (bellwetherref03_Plain.j0 k true a0_0 a0_1 a0_2 a0_3 a0_4 a0_5 a0_6 a0_7 a0_8 a0_9 l0_10))
theorem bellwetherref03_Plain.mono_l : ∀ k, (∀ y0 y1 y2 y3 y4 y5 y6 y7 y8 y9 y10 y11, LeO (bellwetherref03_Plain.j0 k y0 y1 y2 y3 y4 y5 y6 y7 y8 y9 y10 y11) (bellwetherref03_Plain.j0 (k + 1) y0 y1 y2 y3 y4 y5 y6 y7 y8 y9 y10 y11)) ∧ (∀ y0 y1 y2 y3 y4 y5 y6 y7 y8 y9 y10 y11, LeO (bellwetherref03_Plain.j1 k y0 y1 y2 y3 y4 y5 y6 y7 y8 y9 y10 y11) (bellwetherref03_Plain.j1 (k + 1) y0 y1 y2 y3 y4 y5 y6 y7 y8 y9 y10 y11))
 | 0 => ⟨fun _ _ _ _ _ _ _ _ _ _ _ _ r h => by simp [bellwetherref03_Plain.j0] at h, fun _ _ _ _ _ _ _ _ _ _ _ _ r h => by simp [bellwetherref03_Plain.j1] at h⟩
 | k + 1 => by
  obtain ⟨ih0, ih1⟩ := bellwetherref03_Plain.mono_l k
  refine ⟨?_, ?_⟩
  ·
   intro y0 y1 y2 y3 y4 y5 y6 y7 y8 y9 y10 y11
   unfold bellwetherref03_Plain.j0
   repeat' first
   | (with_reducible exact ih0 _ _ _ _ _ _ _ _ _ _ _ _)
   | (with_reducible exact ih1 _ _ _ _ _ _ _ _ _ _ _ _)
   | (with_reducible exact bellwetherref03_owned.mono _ _ _ _ _ _ _ _ _ _ _ _)
   | (with_reducible exact LeO.refl _)
   | (with_reducible exact LeO.none _)
   | (with_reducible refine LeO.ite ?_ ?_)
   | (with_reducible refine LeO.bind ?_ (fun _ => ?_))
   | exact ih0 _ _ _ _ _ _ _ _ _ _ _ _
   | exact ih1 _ _ _ _ _ _ _ _ _ _ _ _
   | exact bellwetherref03_owned.mono _ _ _ _ _ _ _ _ _ _ _ _
   | exact LeO.none _
   | refine LeO.ite ?_ ?_
   | refine LeO.bind ?_ (fun _ => ?_)
  ·
   intro y0 y1 y2 y3 y4 y5 y6 y7 y8 y9 y10 y11
   unfold bellwetherref03_Plain.j1
   repeat' first
   | (with_reducible exact ih0 _ _ _ _ _ _ _ _ _ _ _ _)
   | (with_reducible exact ih1 _ _ _ _ _ _ _ _ _ _ _ _)
   | (with_reducible exact bellwetherref03_owned.mono _ _ _ _ _ _ _ _ _ _ _ _)
   | (with_reducible exact LeO.refl _)
   | (with_reducible exact LeO.none _)
   | (with_reducible refine LeO.ite ?_ ?_)
   | (with_reducible refine LeO.bind ?_ (fun _ => ?_))
   | exact ih0 _ _ _ _ _ _ _ _ _ _ _ _
   | exact ih1 _ _ _ _ _ _ _ _ _ _ _ _
   | exact bellwetherref03_owned.mono _ _ _ _ _ _ _ _ _ _ _ _
   | exact LeO.none _
   | refine LeO.ite ?_ ?_
   | refine LeO.bind ?_ (fun _ => ?_)
theorem bellwetherref03_Plain.mono : ∀ a0 a1 a2 a3 a4 a5 a6 a7 a8 a9 a10 k, LeO (bellwetherref03_Plain.f k a0 a1 a2 a3 a4 a5 a6 a7 a8 a9 a10) (bellwetherref03_Plain.f (k + 1) a0 a1 a2 a3 a4 a5 a6 a7 a8 a9 a10) := by
 intro a0 a1 a2 a3 a4 a5 a6 a7 a8 a9 a10 k
 obtain ⟨ih0, ih1⟩ := bellwetherref03_Plain.mono_l k
 unfold bellwetherref03_Plain.f
 repeat' first
   | (with_reducible exact ih0 _ _ _ _ _ _ _ _ _ _ _ _)
   | (with_reducible exact ih1 _ _ _ _ _ _ _ _ _ _ _ _)
   | (with_reducible exact bellwetherref03_owned.mono _ _ _ _ _ _ _ _ _ _ _ _)
   | (with_reducible exact LeO.refl _)
   | (with_reducible exact LeO.none _)
   | (with_reducible refine LeO.ite ?_ ?_)
   | (with_reducible refine LeO.bind ?_ (fun _ => ?_))
   | exact ih0 _ _ _ _ _ _ _ _ _ _ _ _
   | exact ih1 _ _ _ _ _ _ _ _ _ _ _ _
   | exact bellwetherref03_owned.mono _ _ _ _ _ _ _ _ _ _ _ _
   | exact LeO.none _
   | refine LeO.ite ?_ ?_
   | refine LeO.bind ?_ (fun _ => ?_)
set_option maxHeartbeats 8000000 in
set_option maxRecDepth 100000 in
theorem bellwetherref03_Plain.calls (k : Nat) (a0_0 : Int) (a0_1 : Int) (a0_2 : Int) (a0_3 : Int) (a0_4 : Int) (a0_5 : Int) (a0_6 : Int) (a0_7 : Int) (a0_8 : Int) (a0_9 : Int) (A0_10 : Option Addr) (c0_10 : Nat) (l0_10 : List Int) (r : Int) (w : World) (hr0_10 : Kd.C (Kd.int .i64) w A0_10 l0_10.length l0_10) (hc0_10 : l0_10.length ≤ c0_10) (h : bellwetherref03_Plain.f k a0_0 a0_1 a0_2 a0_3 a0_4 a0_5 a0_6 a0_7 a0_8 a0_9 l0_10 = some r) :
  Calls Try.prog 22 #[.agg #[.int .i64 a0_0, .int .i64 a0_1, .int .i64 a0_2, .int .i64 a0_3, .int .i64 a0_4, .int .i64 a0_5, .int .i64 a0_6, .int .i64 a0_7, .int .i64 a0_8, .int .i64 a0_9, .slice A0_10 l0_10.length c0_10]] w fun e w' => e = .returned (.int .i64 r) ∧ Below w.heap.size w w' := by
 have hu35 := Try.underlying35
 have HR0_10 := Aside0.mk hr0_10
 have HC0_10 := Aside0.mk hc0_10
 clear hr0_10 hc0_10
 have HB := Aside0.mk (Below.refl w.heap.size w)
 have H : ((bellwetherref03_within.f a0_0 4 13).bind fun t132 => (if t132 = true then ((bellwetherref03_within.f a0_1 0 4).bind fun t133 => (if t133 = true then (bellwetherref03_Plain.j0 k (decide (a0_0 ≤ (wrap64 (3 * a0_1)))) a0_0 a0_1 a0_2 a0_3 a0_4 a0_5 a0_6 a0_7 a0_8 a0_9 l0_10) else (bellwetherref03_Plain.j0 k true a0_0 a0_1 a0_2 a0_3 a0_4 a0_5 a0_6 a0_7 a0_8 a0_9 l0_10))) else (bellwetherref03_Plain.j0 k true a0_0 a0_1 a0_2 a0_3 a0_4 a0_5 a0_6 a0_7 a0_8 a0_9 l0_10))) = some r := h
 clear h
 have HC2 := Aside0.mk H
 clear H
 go_enter Try.func22, Try.ntmps22
 go_upto_region 1 with (first | ((with_reducible refine gate_dst (N := 1) rfl ?_); refine box_event ?hg (N := 1) ?hd (cs := #[.int .i64 a0_0, .int .i64 a0_1, .int .i64 a0_2, .int .i64 a0_3, .int .i64 a0_4, .int .i64 a0_5, .int .i64 a0_6, .int .i64 a0_7, .int .i64 a0_8, .int .i64 a0_9, .slice A0_10 l0_10.length c0_10]) (t := 35) ?hr ?_; (case hd => rfl); (case hg => rfl); (case hr => first | (go_simp; done) | (go_simp; rfl)); intro gb131 hg w3 hbox hb; have n0_ := Aside0.mk (below_step (by repeat (first | (with_reducible first | exact HB.out | apply below_alloc | apply pw_below_drewN | apply below_drew1) | exact HB.out)) hb); have n1_ := Aside0.mk (hbox); have n2_ := Aside0.mk ((by rw [hg]; exact (below_size (by repeat (first | (with_reducible first | exact HB.out | apply below_alloc | apply pw_below_drewN | apply below_drew1) | exact HB.out))) : w.heap.size ≤ gb131)); have n3_ := Aside0.mk ((by rw [hg]; exact (below_size (by repeat (first | (with_reducible first | exact HB.out | apply below_alloc | apply pw_below_drewN | apply below_drew1) | exact HB.out))) : w.heap.size ≤ gb131)); clear HB; have HB := n0_; have BK131 := n1_; have GW131 := n2_; have GE131 := n3_; clear n0_ n1_ n2_ n3_; clear hb hbox hg))
 (try simp only [Act.put, List.setIfInBounds_toArray, List.set_cons_zero, List.set_cons_succ])
 go_cut [20] (fun v20 wc => ∃ (kq : Nat) (x20_1 : Bool), v20 = .bool x20_1 ∧ Aside0 (bellwetherref03_Plain.j0 kq x20_1 a0_0 a0_1 a0_2 a0_3 a0_4 a0_5 a0_6 a0_7 a0_8 a0_9 l0_10 = some r) ∧ Aside0 (kq ≤ k) ∧ Aside0 (wc.heap[gb131]? = some (.cells #[.int .i64 a0_0, .int .i64 a0_1, .int .i64 a0_2, .int .i64 a0_3, .int .i64 a0_4, .int .i64 a0_5, .int .i64 a0_6, .int .i64 a0_7, .int .i64 a0_8, .int .i64 a0_9, (.slice A0_10 l0_10.length c0_10)] 35 (0, 0))) ∧ Aside0 (Below w.heap.size w wc))
 case first =>
  have H := HC2.out
  clear HC2
  replace H := Option.bind_eq_some_iff.mp H
  obtain ⟨t132, A40, H⟩ := H
  replace H : (if t132 = true then ((bellwetherref03_within.f a0_1 0 4).bind fun t133 => (if t133 = true then (bellwetherref03_Plain.j0 k (decide (a0_0 ≤ (wrap64 (3 * a0_1)))) a0_0 a0_1 a0_2 a0_3 a0_4 a0_5 a0_6 a0_7 a0_8 a0_9 l0_10) else (bellwetherref03_Plain.j0 k true a0_0 a0_1 a0_2 a0_3 a0_4 a0_5 a0_6 a0_7 a0_8 a0_9 l0_10))) else (bellwetherref03_Plain.j0 k true a0_0 a0_1 a0_2 a0_3 a0_4 a0_5 a0_6 a0_7 a0_8 a0_9 l0_10)) = some r := H
  have A4 := Aside0.mk A40
  clear A40
  by_cases c5 : t132 = true
  ·
   subst c5
   have H1 : ((bellwetherref03_within.f a0_1 0 4).bind fun t133 => (if t133 = true then (bellwetherref03_Plain.j0 k (decide (a0_0 ≤ (wrap64 (3 * a0_1)))) a0_0 a0_1 a0_2 a0_3 a0_4 a0_5 a0_6 a0_7 a0_8 a0_9 l0_10) else (bellwetherref03_Plain.j0 k true a0_0 a0_1 a0_2 a0_3 a0_4 a0_5 a0_6 a0_7 a0_8 a0_9 l0_10))) = some r := by rw [if_pos rfl] at H; exact H
   clear H
   have H := H1
   clear H1
   replace H := Option.bind_eq_some_iff.mp H
   obtain ⟨t133, A60, H⟩ := H
   replace H : (if t133 = true then (bellwetherref03_Plain.j0 k (decide (a0_0 ≤ (wrap64 (3 * a0_1)))) a0_0 a0_1 a0_2 a0_3 a0_4 a0_5 a0_6 a0_7 a0_8 a0_9 l0_10) else (bellwetherref03_Plain.j0 k true a0_0 a0_1 a0_2 a0_3 a0_4 a0_5 a0_6 a0_7 a0_8 a0_9 l0_10)) = some r := H
   have A6 := Aside0.mk A60
   clear A60
   by_cases c7 : t133 = true
   ·
    subst c7
    have H1 : (bellwetherref03_Plain.j0 k (decide (a0_0 ≤ (wrap64 (3 * a0_1)))) a0_0 a0_1 a0_2 a0_3 a0_4 a0_5 a0_6 a0_7 a0_8 a0_9 l0_10) = some r := by rw [if_pos rfl] at H; exact H
    clear H
    have H := H1
    clear H1
    have H' := Aside0.mk H
    clear H
    have hcz8_0 : w3.cell? ⟨gb131, 0, none⟩ = some (.int .i64 a0_0) := (blk_cell BK131.out 0).trans rfl
    have hcz8_1 : w3.cell? ⟨gb131, 1, none⟩ = some (.int .i64 a0_1) := (blk_cell BK131.out 1).trans rfl
    have hcz8_2 : w3.cell? ⟨gb131, 2, none⟩ = some (.int .i64 a0_2) := (blk_cell BK131.out 2).trans rfl
    have hcz8_3 : w3.cell? ⟨gb131, 3, none⟩ = some (.int .i64 a0_3) := (blk_cell BK131.out 3).trans rfl
    have hcz8_4 : w3.cell? ⟨gb131, 4, none⟩ = some (.int .i64 a0_4) := (blk_cell BK131.out 4).trans rfl
    have hcz8_5 : w3.cell? ⟨gb131, 5, none⟩ = some (.int .i64 a0_5) := (blk_cell BK131.out 5).trans rfl
    have hcz8_6 : w3.cell? ⟨gb131, 6, none⟩ = some (.int .i64 a0_6) := (blk_cell BK131.out 6).trans rfl
    have hcz8_7 : w3.cell? ⟨gb131, 7, none⟩ = some (.int .i64 a0_7) := (blk_cell BK131.out 7).trans rfl
    have hcz8_8 : w3.cell? ⟨gb131, 8, none⟩ = some (.int .i64 a0_8) := (blk_cell BK131.out 8).trans rfl
    have hcz8_9 : w3.cell? ⟨gb131, 9, none⟩ = some (.int .i64 a0_9) := (blk_cell BK131.out 9).trans rfl
    have hcz8_10 : w3.cell? ⟨gb131, 10, none⟩ = some (.slice A0_10 l0_10.length c0_10) := (blk_cell BK131.out 10).trans rfl
    have hfz8_0 := blk_frozen BK131.out 0
    have hfz8_1 := blk_frozen BK131.out 1
    have hfz8_2 := blk_frozen BK131.out 2
    have hfz8_3 := blk_frozen BK131.out 3
    have hfz8_4 := blk_frozen BK131.out 4
    have hfz8_5 := blk_frozen BK131.out 5
    have hfz8_6 := blk_frozen BK131.out 6
    have hfz8_7 := blk_frozen BK131.out 7
    have hfz8_8 := blk_frozen BK131.out 8
    have hfz8_9 := blk_frozen BK131.out 9
    have hfz8_10 := blk_frozen BK131.out 10
    go_wp2_with (first | ((with_reducible refine gate_callee (f := 46) rfl ?_); refine goesL_ (some 5) rfl rfl Try.func46 (by kernel_rfl) rfl #[.int .i64 a0_0, .int .i64 4, .int .i64 13] rfl (by (try simp only [List.map_toArray, List.map_cons, List.map_nil]); first | done | rfl | (simp only [List.length_drop, List.length_take]; rfl)) ?_; (with_reducible refine (bellwetherref03_within.calls a0_0 4 13 true _ A4.out).mono ?_); rintro e w' ⟨rfl, ⟨nd, rfl⟩⟩; refine ⟨_, rfl, ?_⟩) | (go_at_call 46; (with_reducible refine (bellwetherref03_within.calls a0_1 0 4 true _ A6.out).mono ?_); rintro e w' ⟨rfl, ⟨nd, rfl⟩⟩))
    go_meet
    case rel => exact ⟨_, (decide (a0_0 ≤ (wrap64 (3 * a0_1)))), (by first | rfl | (simp; done) | (simp [*]; done)), H', ⟨by first | omega | exact Nat.le_refl _⟩, ⟨by (with_reducible repeat (first | refine blk_drewN ?_ _ | refine blk_drew ?_ | refine blk_alloc ?_ _)); exact BK131.out⟩, ⟨by repeat (first | (with_reducible first | exact HB.out | apply below_alloc | apply pw_below_drewN | apply below_drew1 | refine below_set ?_ GE131.out) | exact HB.out)⟩⟩
   ·
    replace c7 := Bool.eq_false_iff.mpr c7
    subst c7
    have H1 : (bellwetherref03_Plain.j0 k true a0_0 a0_1 a0_2 a0_3 a0_4 a0_5 a0_6 a0_7 a0_8 a0_9 l0_10) = some r := by rw [if_neg (show ¬ (false = true) by decide)] at H; exact H
    clear H
    have H := H1
    clear H1
    have H' := Aside0.mk H
    clear H
    have hcz9_0 : w3.cell? ⟨gb131, 0, none⟩ = some (.int .i64 a0_0) := (blk_cell BK131.out 0).trans rfl
    have hcz9_1 : w3.cell? ⟨gb131, 1, none⟩ = some (.int .i64 a0_1) := (blk_cell BK131.out 1).trans rfl
    have hcz9_2 : w3.cell? ⟨gb131, 2, none⟩ = some (.int .i64 a0_2) := (blk_cell BK131.out 2).trans rfl
    have hcz9_3 : w3.cell? ⟨gb131, 3, none⟩ = some (.int .i64 a0_3) := (blk_cell BK131.out 3).trans rfl
    have hcz9_4 : w3.cell? ⟨gb131, 4, none⟩ = some (.int .i64 a0_4) := (blk_cell BK131.out 4).trans rfl
    have hcz9_5 : w3.cell? ⟨gb131, 5, none⟩ = some (.int .i64 a0_5) := (blk_cell BK131.out 5).trans rfl
    have hcz9_6 : w3.cell? ⟨gb131, 6, none⟩ = some (.int .i64 a0_6) := (blk_cell BK131.out 6).trans rfl
    have hcz9_7 : w3.cell? ⟨gb131, 7, none⟩ = some (.int .i64 a0_7) := (blk_cell BK131.out 7).trans rfl
    have hcz9_8 : w3.cell? ⟨gb131, 8, none⟩ = some (.int .i64 a0_8) := (blk_cell BK131.out 8).trans rfl
    have hcz9_9 : w3.cell? ⟨gb131, 9, none⟩ = some (.int .i64 a0_9) := (blk_cell BK131.out 9).trans rfl
    have hcz9_10 : w3.cell? ⟨gb131, 10, none⟩ = some (.slice A0_10 l0_10.length c0_10) := (blk_cell BK131.out 10).trans rfl
    have hfz9_0 := blk_frozen BK131.out 0
    have hfz9_1 := blk_frozen BK131.out 1
    have hfz9_2 := blk_frozen BK131.out 2
    have hfz9_3 := blk_frozen BK131.out 3
    have hfz9_4 := blk_frozen BK131.out 4
    have hfz9_5 := blk_frozen BK131.out 5
    have hfz9_6 := blk_frozen BK131.out 6
    have hfz9_7 := blk_frozen BK131.out 7
    have hfz9_8 := blk_frozen BK131.out 8
    have hfz9_9 := blk_frozen BK131.out 9
    have hfz9_10 := blk_frozen BK131.out 10
    go_wp2_with (first | ((with_reducible refine gate_callee (f := 46) rfl ?_); refine goesL_ (some 5) rfl rfl Try.func46 (by kernel_rfl) rfl #[.int .i64 a0_0, .int .i64 4, .int .i64 13] rfl (by (try simp only [List.map_toArray, List.map_cons, List.map_nil]); first | done | rfl | (simp only [List.length_drop, List.length_take]; rfl)) ?_; (with_reducible refine (bellwetherref03_within.calls a0_0 4 13 true _ A4.out).mono ?_); rintro e w' ⟨rfl, ⟨nd, rfl⟩⟩; refine ⟨_, rfl, ?_⟩) | (go_at_call 46; (with_reducible refine (bellwetherref03_within.calls a0_1 0 4 false _ A6.out).mono ?_); rintro e w' ⟨rfl, ⟨nd, rfl⟩⟩))
    go_meet
    case rel => exact ⟨_, (true), (by first | rfl | (simp; done) | (simp [*]; done)), H', ⟨by first | omega | exact Nat.le_refl _⟩, ⟨by (with_reducible repeat (first | refine blk_drewN ?_ _ | refine blk_drew ?_ | refine blk_alloc ?_ _)); exact BK131.out⟩, ⟨by repeat (first | (with_reducible first | exact HB.out | apply below_alloc | apply pw_below_drewN | apply below_drew1 | refine below_set ?_ GE131.out) | exact HB.out)⟩⟩
  ·
   replace c5 := Bool.eq_false_iff.mpr c5
   subst c5
   have H1 : (bellwetherref03_Plain.j0 k true a0_0 a0_1 a0_2 a0_3 a0_4 a0_5 a0_6 a0_7 a0_8 a0_9 l0_10) = some r := by rw [if_neg (show ¬ (false = true) by decide)] at H; exact H
   clear H
   have H := H1
   clear H1
   have H' := Aside0.mk H
   clear H
   have hcz10_0 : w3.cell? ⟨gb131, 0, none⟩ = some (.int .i64 a0_0) := (blk_cell BK131.out 0).trans rfl
   have hcz10_1 : w3.cell? ⟨gb131, 1, none⟩ = some (.int .i64 a0_1) := (blk_cell BK131.out 1).trans rfl
   have hcz10_2 : w3.cell? ⟨gb131, 2, none⟩ = some (.int .i64 a0_2) := (blk_cell BK131.out 2).trans rfl
   have hcz10_3 : w3.cell? ⟨gb131, 3, none⟩ = some (.int .i64 a0_3) := (blk_cell BK131.out 3).trans rfl
   have hcz10_4 : w3.cell? ⟨gb131, 4, none⟩ = some (.int .i64 a0_4) := (blk_cell BK131.out 4).trans rfl
   have hcz10_5 : w3.cell? ⟨gb131, 5, none⟩ = some (.int .i64 a0_5) := (blk_cell BK131.out 5).trans rfl
   have hcz10_6 : w3.cell? ⟨gb131, 6, none⟩ = some (.int .i64 a0_6) := (blk_cell BK131.out 6).trans rfl
   have hcz10_7 : w3.cell? ⟨gb131, 7, none⟩ = some (.int .i64 a0_7) := (blk_cell BK131.out 7).trans rfl
   have hcz10_8 : w3.cell? ⟨gb131, 8, none⟩ = some (.int .i64 a0_8) := (blk_cell BK131.out 8).trans rfl
   have hcz10_9 : w3.cell? ⟨gb131, 9, none⟩ = some (.int .i64 a0_9) := (blk_cell BK131.out 9).trans rfl
   have hcz10_10 : w3.cell? ⟨gb131, 10, none⟩ = some (.slice A0_10 l0_10.length c0_10) := (blk_cell BK131.out 10).trans rfl
   have hfz10_0 := blk_frozen BK131.out 0
   have hfz10_1 := blk_frozen BK131.out 1
   have hfz10_2 := blk_frozen BK131.out 2
   have hfz10_3 := blk_frozen BK131.out 3
   have hfz10_4 := blk_frozen BK131.out 4
   have hfz10_5 := blk_frozen BK131.out 5
   have hfz10_6 := blk_frozen BK131.out 6
   have hfz10_7 := blk_frozen BK131.out 7
   have hfz10_8 := blk_frozen BK131.out 8
   have hfz10_9 := blk_frozen BK131.out 9
   have hfz10_10 := blk_frozen BK131.out 10
   go_wp2_with (first | ((with_reducible refine gate_callee (f := 46) rfl ?_); refine goesL_ (some 5) rfl rfl Try.func46 (by kernel_rfl) rfl #[.int .i64 a0_0, .int .i64 4, .int .i64 13] rfl (by (try simp only [List.map_toArray, List.map_cons, List.map_nil]); first | done | rfl | (simp only [List.length_drop, List.length_take]; rfl)) ?_; (with_reducible refine (bellwetherref03_within.calls a0_0 4 13 false _ A4.out).mono ?_); rintro e w' ⟨rfl, ⟨nd, rfl⟩⟩; refine ⟨_, rfl, ?_⟩))
   go_meet
   case rel => exact ⟨_, (true), (by first | rfl | (simp; done) | (simp [*]; done)), H', ⟨by first | omega | exact Nat.le_refl _⟩, ⟨by (with_reducible repeat (first | refine blk_drewN ?_ _ | refine blk_drew ?_ | refine blk_alloc ?_ _)); exact BK131.out⟩, ⟨by repeat (first | (with_reducible first | exact HB.out | apply below_alloc | apply pw_below_drewN | apply below_drew1 | refine below_set ?_ GE131.out) | exact HB.out)⟩⟩
 case rest =>
  clear HC2
  try clear c2
  try clear p2
  try clear c4
  try clear c5
  try clear p6
  try clear c7
  try clear hcz10_0
  try clear hcz10_1
  try clear hcz10_10
  try clear hcz10_2
  try clear hcz10_3
  try clear hcz10_4
  try clear hcz10_5
  try clear hcz10_6
  try clear hcz10_7
  try clear hcz10_8
  try clear hcz10_9
  try clear hcz8_0
  try clear hcz8_1
  try clear hcz8_10
  try clear hcz8_2
  try clear hcz8_3
  try clear hcz8_4
  try clear hcz8_5
  try clear hcz8_6
  try clear hcz8_7
  try clear hcz8_8
  try clear hcz8_9
  try clear hcz9_0
  try clear hcz9_1
  try clear hcz9_10
  try clear hcz9_2
  try clear hcz9_3
  try clear hcz9_4
  try clear hcz9_5
  try clear hcz9_6
  try clear hcz9_7
  try clear hcz9_8
  try clear hcz9_9
  try clear hfz10_0
  try clear hfz10_1
  try clear hfz10_10
  try clear hfz10_2
  try clear hfz10_3
  try clear hfz10_4
  try clear hfz10_5
  try clear hfz10_6
  try clear hfz10_7
  try clear hfz10_8
  try clear hfz10_9
  try clear hfz8_0
  try clear hfz8_1
  try clear hfz8_10
  try clear hfz8_2
  try clear hfz8_3
  try clear hfz8_4
  try clear hfz8_5
  try clear hfz8_6
  try clear hfz8_7
  try clear hfz8_8
  try clear hfz8_9
  try clear hfz9_0
  try clear hfz9_1
  try clear hfz9_10
  try clear hfz9_2
  try clear hfz9_3
  try clear hfz9_4
  try clear hfz9_5
  try clear hfz9_6
  try clear hfz9_7
  try clear hfz9_8
  try clear hfz9_9
  obtain ⟨kq, x20_1, rfl, HA, HJ1, BK131, HB⟩ := hcut
  cases kq with
  | zero => exact absurd HA.out (by simp [bellwetherref03_Plain.j0])
  | succ kj1 =>
   have H := HA.out
   clear HA
   simp only [bellwetherref03_Plain.j0] at H
   by_cases c11 : x20_1 = true
   ·
    subst c11
    have H1 : (some 7) = some r := by rw [if_pos rfl] at H; exact H
    clear H
    have H := H1
    clear H1
    obtain rfl := Option.some.inj H
    go_wp2
    go_ret
    exact ⟨by first | rfl | (simp [errW_none, errW_some] <;> rfl) | (simp [*, errW_none, errW_some] <;> rfl), by repeat (first | (with_reducible first | exact HB.out | apply below_alloc | apply pw_below_drewN | apply below_drew1 | refine below_set ?_ GE131.out) | exact HB.out)⟩
   ·
    replace c11 := Bool.eq_false_iff.mpr c11
    subst c11
    have H1 : ((bellwetherref03_within.f a0_2 1 4).bind fun t134 => (if t134 = true then ((bellwetherref03_within.f a0_3 (wrap64 ((wrap64 ((wrap64 (6 * (wrap64 (a0_1 + 1)))) * a0_2)) + 1)) 400).bind fun t135 => (if t135 = true then ((bellwetherref03_within.f a0_4 1 64).bind fun t136 => (if t136 = true then ((bellwetherref03_within.f a0_5 0 (wrap64 (a0_4 - 1))).bind fun t137 => (if t137 = true then ((bellwetherref03_within.f a0_6 0 30000).bind fun t138 => (if t138 = true then ((bellwetherref03_within.f a0_7 1 30000).bind fun t139 => (if t139 = true then ((bellwetherref03_within.f a0_8 2 250).bind fun t140 => (if t140 = true then ((bellwetherref03_within.f a0_9 1 100).bind fun t141 => (bellwetherref03_Plain.j1 kj1 (!t141) a0_0 a0_1 a0_2 a0_3 a0_4 a0_5 a0_6 a0_7 a0_8 a0_9 l0_10)) else (bellwetherref03_Plain.j1 kj1 true a0_0 a0_1 a0_2 a0_3 a0_4 a0_5 a0_6 a0_7 a0_8 a0_9 l0_10))) else (bellwetherref03_Plain.j1 kj1 true a0_0 a0_1 a0_2 a0_3 a0_4 a0_5 a0_6 a0_7 a0_8 a0_9 l0_10))) else (bellwetherref03_Plain.j1 kj1 true a0_0 a0_1 a0_2 a0_3 a0_4 a0_5 a0_6 a0_7 a0_8 a0_9 l0_10))) else (bellwetherref03_Plain.j1 kj1 true a0_0 a0_1 a0_2 a0_3 a0_4 a0_5 a0_6 a0_7 a0_8 a0_9 l0_10))) else (bellwetherref03_Plain.j1 kj1 true a0_0 a0_1 a0_2 a0_3 a0_4 a0_5 a0_6 a0_7 a0_8 a0_9 l0_10))) else (bellwetherref03_Plain.j1 kj1 true a0_0 a0_1 a0_2 a0_3 a0_4 a0_5 a0_6 a0_7 a0_8 a0_9 l0_10))) else (some 10))) = some r := by rw [if_neg (show ¬ (false = true) by decide)] at H; exact H
    clear H
    have H := H1
    clear H1
    replace H := Option.bind_eq_some_iff.mp H
    obtain ⟨t134, A120, H⟩ := H
    replace H : (if t134 = true then ((bellwetherref03_within.f a0_3 (wrap64 ((wrap64 ((wrap64 (6 * (wrap64 (a0_1 + 1)))) * a0_2)) + 1)) 400).bind fun t135 => (if t135 = true then ((bellwetherref03_within.f a0_4 1 64).bind fun t136 => (if t136 = true then ((bellwetherref03_within.f a0_5 0 (wrap64 (a0_4 - 1))).bind fun t137 => (if t137 = true then ((bellwetherref03_within.f a0_6 0 30000).bind fun t138 => (if t138 = true then ((bellwetherref03_within.f a0_7 1 30000).bind fun t139 => (if t139 = true then ((bellwetherref03_within.f a0_8 2 250).bind fun t140 => (if t140 = true then ((bellwetherref03_within.f a0_9 1 100).bind fun t141 => (bellwetherref03_Plain.j1 kj1 (!t141) a0_0 a0_1 a0_2 a0_3 a0_4 a0_5 a0_6 a0_7 a0_8 a0_9 l0_10)) else (bellwetherref03_Plain.j1 kj1 true a0_0 a0_1 a0_2 a0_3 a0_4 a0_5 a0_6 a0_7 a0_8 a0_9 l0_10))) else (bellwetherref03_Plain.j1 kj1 true a0_0 a0_1 a0_2 a0_3 a0_4 a0_5 a0_6 a0_7 a0_8 a0_9 l0_10))) else (bellwetherref03_Plain.j1 kj1 true a0_0 a0_1 a0_2 a0_3 a0_4 a0_5 a0_6 a0_7 a0_8 a0_9 l0_10))) else (bellwetherref03_Plain.j1 kj1 true a0_0 a0_1 a0_2 a0_3 a0_4 a0_5 a0_6 a0_7 a0_8 a0_9 l0_10))) else (bellwetherref03_Plain.j1 kj1 true a0_0 a0_1 a0_2 a0_3 a0_4 a0_5 a0_6 a0_7 a0_8 a0_9 l0_10))) else (bellwetherref03_Plain.j1 kj1 true a0_0 a0_1 a0_2 a0_3 a0_4 a0_5 a0_6 a0_7 a0_8 a0_9 l0_10))) else (some 10)) = some r := H
    have A12 := Aside0.mk A120
    clear A120
    by_cases c13 : t134 = true
    ·
     subst c13
     have H1 : ((bellwetherref03_within.f a0_3 (wrap64 ((wrap64 ((wrap64 (6 * (wrap64 (a0_1 + 1)))) * a0_2)) + 1)) 400).bind fun t135 => (if t135 = true then ((bellwetherref03_within.f a0_4 1 64).bind fun t136 => (if t136 = true then ((bellwetherref03_within.f a0_5 0 (wrap64 (a0_4 - 1))).bind fun t137 => (if t137 = true then ((bellwetherref03_within.f a0_6 0 30000).bind fun t138 => (if t138 = true then ((bellwetherref03_within.f a0_7 1 30000).bind fun t139 => (if t139 = true then ((bellwetherref03_within.f a0_8 2 250).bind fun t140 => (if t140 = true then ((bellwetherref03_within.f a0_9 1 100).bind fun t141 => (bellwetherref03_Plain.j1 kj1 (!t141) a0_0 a0_1 a0_2 a0_3 a0_4 a0_5 a0_6 a0_7 a0_8 a0_9 l0_10)) else (bellwetherref03_Plain.j1 kj1 true a0_0 a0_1 a0_2 a0_3 a0_4 a0_5 a0_6 a0_7 a0_8 a0_9 l0_10))) else (bellwetherref03_Plain.j1 kj1 true a0_0 a0_1 a0_2 a0_3 a0_4 a0_5 a0_6 a0_7 a0_8 a0_9 l0_10))) else (bellwetherref03_Plain.j1 kj1 true a0_0 a0_1 a0_2 a0_3 a0_4 a0_5 a0_6 a0_7 a0_8 a0_9 l0_10))) else (bellwetherref03_Plain.j1 kj1 true a0_0 a0_1 a0_2 a0_3 a0_4 a0_5 a0_6 a0_7 a0_8 a0_9 l0_10))) else (bellwetherref03_Plain.j1 kj1 true a0_0 a0_1 a0_2 a0_3 a0_4 a0_5 a0_6 a0_7 a0_8 a0_9 l0_10))) else (bellwetherref03_Plain.j1 kj1 true a0_0 a0_1 a0_2 a0_3 a0_4 a0_5 a0_6 a0_7 a0_8 a0_9 l0_10))) = some r := by rw [if_pos rfl] at H; exact H
     clear H
     have H := H1
     clear H1
     have HC14 := Aside0.mk H
     clear H
     have hcz15_0 : wc.cell? ⟨gb131, 0, none⟩ = some (.int .i64 a0_0) := (blk_cell BK131.out 0).trans rfl
     have hcz15_1 : wc.cell? ⟨gb131, 1, none⟩ = some (.int .i64 a0_1) := (blk_cell BK131.out 1).trans rfl
     have hcz15_2 : wc.cell? ⟨gb131, 2, none⟩ = some (.int .i64 a0_2) := (blk_cell BK131.out 2).trans rfl
     have hcz15_3 : wc.cell? ⟨gb131, 3, none⟩ = some (.int .i64 a0_3) := (blk_cell BK131.out 3).trans rfl
     have hcz15_4 : wc.cell? ⟨gb131, 4, none⟩ = some (.int .i64 a0_4) := (blk_cell BK131.out 4).trans rfl
     have hcz15_5 : wc.cell? ⟨gb131, 5, none⟩ = some (.int .i64 a0_5) := (blk_cell BK131.out 5).trans rfl
     have hcz15_6 : wc.cell? ⟨gb131, 6, none⟩ = some (.int .i64 a0_6) := (blk_cell BK131.out 6).trans rfl
     have hcz15_7 : wc.cell? ⟨gb131, 7, none⟩ = some (.int .i64 a0_7) := (blk_cell BK131.out 7).trans rfl
     have hcz15_8 : wc.cell? ⟨gb131, 8, none⟩ = some (.int .i64 a0_8) := (blk_cell BK131.out 8).trans rfl
     have hcz15_9 : wc.cell? ⟨gb131, 9, none⟩ = some (.int .i64 a0_9) := (blk_cell BK131.out 9).trans rfl
     have hcz15_10 : wc.cell? ⟨gb131, 10, none⟩ = some (.slice A0_10 l0_10.length c0_10) := (blk_cell BK131.out 10).trans rfl
     have hfz15_0 := blk_frozen BK131.out 0
     have hfz15_1 := blk_frozen BK131.out 1
     have hfz15_2 := blk_frozen BK131.out 2
     have hfz15_3 := blk_frozen BK131.out 3
     have hfz15_4 := blk_frozen BK131.out 4
     have hfz15_5 := blk_frozen BK131.out 5
     have hfz15_6 := blk_frozen BK131.out 6
     have hfz15_7 := blk_frozen BK131.out 7
     have hfz15_8 := blk_frozen BK131.out 8
     have hfz15_9 := blk_frozen BK131.out 9
     have hfz15_10 := blk_frozen BK131.out 10
     go_upto_region 5 with (first | ((with_reducible refine gate_callee (f := 46) rfl ?_); refine goesL_ (some 23) rfl rfl Try.func46 (by kernel_rfl) rfl #[.int .i64 a0_2, .int .i64 1, .int .i64 4] rfl (by (try simp only [List.map_toArray, List.map_cons, List.map_nil]); first | done | rfl | (simp only [List.length_drop, List.length_take]; rfl)) ?_; (with_reducible refine (bellwetherref03_within.calls a0_2 1 4 true _ A12.out).mono ?_); rintro e w' ⟨rfl, ⟨nd, rfl⟩⟩; refine ⟨_, rfl, ?_⟩))
     (try simp only [Act.put, List.setIfInBounds_toArray, List.set_cons_zero, List.set_cons_succ])
     go_cut [75] (fun v75 wc => ∃ (kq : Nat) (x75_13 : Bool), v75 = .bool x75_13 ∧ Aside0 (bellwetherref03_Plain.j1 kq x75_13 a0_0 a0_1 a0_2 a0_3 a0_4 a0_5 a0_6 a0_7 a0_8 a0_9 l0_10 = some r) ∧ Aside0 (kq ≤ kj1) ∧ Aside0 (wc.heap[gb131]? = some (.cells #[.int .i64 a0_0, .int .i64 a0_1, .int .i64 a0_2, .int .i64 a0_3, .int .i64 a0_4, .int .i64 a0_5, .int .i64 a0_6, .int .i64 a0_7, .int .i64 a0_8, .int .i64 a0_9, (.slice A0_10 l0_10.length c0_10)] 35 (0, 0))) ∧ Aside0 (Below w.heap.size w wc))
     case first =>
      have H := HC14.out
      clear HC14
      replace H := Option.bind_eq_some_iff.mp H
      obtain ⟨t135, A160, H⟩ := H
      replace H : (if t135 = true then ((bellwetherref03_within.f a0_4 1 64).bind fun t136 => (if t136 = true then ((bellwetherref03_within.f a0_5 0 (wrap64 (a0_4 - 1))).bind fun t137 => (if t137 = true then ((bellwetherref03_within.f a0_6 0 30000).bind fun t138 => (if t138 = true then ((bellwetherref03_within.f a0_7 1 30000).bind fun t139 => (if t139 = true then ((bellwetherref03_within.f a0_8 2 250).bind fun t140 => (if t140 = true then ((bellwetherref03_within.f a0_9 1 100).bind fun t141 => (bellwetherref03_Plain.j1 kj1 (!t141) a0_0 a0_1 a0_2 a0_3 a0_4 a0_5 a0_6 a0_7 a0_8 a0_9 l0_10)) else (bellwetherref03_Plain.j1 kj1 true a0_0 a0_1 a0_2 a0_3 a0_4 a0_5 a0_6 a0_7 a0_8 a0_9 l0_10))) else (bellwetherref03_Plain.j1 kj1 true a0_0 a0_1 a0_2 a0_3 a0_4 a0_5 a0_6 a0_7 a0_8 a0_9 l0_10))) else (bellwetherref03_Plain.j1 kj1 true a0_0 a0_1 a0_2 a0_3 a0_4 a0_5 a0_6 a0_7 a0_8 a0_9 l0_10))) else (bellwetherref03_Plain.j1 kj1 true a0_0 a0_1 a0_2 a0_3 a0_4 a0_5 a0_6 a0_7 a0_8 a0_9 l0_10))) else (bellwetherref03_Plain.j1 kj1 true a0_0 a0_1 a0_2 a0_3 a0_4 a0_5 a0_6 a0_7 a0_8 a0_9 l0_10))) else (bellwetherref03_Plain.j1 kj1 true a0_0 a0_1 a0_2 a0_3 a0_4 a0_5 a0_6 a0_7 a0_8 a0_9 l0_10)) = some r := H
      have A16 := Aside0.mk A160
      clear A160
      by_cases c17 : t135 = true
      ·
       subst c17
       have H1 : ((bellwetherref03_within.f a0_4 1 64).bind fun t136 => (if t136 = true then ((bellwetherref03_within.f a0_5 0 (wrap64 (a0_4 - 1))).bind fun t137 => (if t137 = true then ((bellwetherref03_within.f a0_6 0 30000).bind fun t138 => (if t138 = true then ((bellwetherref03_within.f a0_7 1 30000).bind fun t139 => (if t139 = true then ((bellwetherref03_within.f a0_8 2 250).bind fun t140 => (if t140 = true then ((bellwetherref03_within.f a0_9 1 100).bind fun t141 => (bellwetherref03_Plain.j1 kj1 (!t141) a0_0 a0_1 a0_2 a0_3 a0_4 a0_5 a0_6 a0_7 a0_8 a0_9 l0_10)) else (bellwetherref03_Plain.j1 kj1 true a0_0 a0_1 a0_2 a0_3 a0_4 a0_5 a0_6 a0_7 a0_8 a0_9 l0_10))) else (bellwetherref03_Plain.j1 kj1 true a0_0 a0_1 a0_2 a0_3 a0_4 a0_5 a0_6 a0_7 a0_8 a0_9 l0_10))) else (bellwetherref03_Plain.j1 kj1 true a0_0 a0_1 a0_2 a0_3 a0_4 a0_5 a0_6 a0_7 a0_8 a0_9 l0_10))) else (bellwetherref03_Plain.j1 kj1 true a0_0 a0_1 a0_2 a0_3 a0_4 a0_5 a0_6 a0_7 a0_8 a0_9 l0_10))) else (bellwetherref03_Plain.j1 kj1 true a0_0 a0_1 a0_2 a0_3 a0_4 a0_5 a0_6 a0_7 a0_8 a0_9 l0_10))) = some r := by rw [if_pos rfl] at H; exact H
       clear H
       have H := H1
       clear H1
       replace H := Option.bind_eq_some_iff.mp H
       obtain ⟨t136, A180, H⟩ := H
       replace H : (if t136 = true then ((bellwetherref03_within.f a0_5 0 (wrap64 (a0_4 - 1))).bind fun t137 => (if t137 = true then ((bellwetherref03_within.f a0_6 0 30000).bind fun t138 => (if t138 = true then ((bellwetherref03_within.f a0_7 1 30000).bind fun t139 => (if t139 = true then ((bellwetherref03_within.f a0_8 2 250).bind fun t140 => (if t140 = true then ((bellwetherref03_within.f a0_9 1 100).bind fun t141 => (bellwetherref03_Plain.j1 kj1 (!t141) a0_0 a0_1 a0_2 a0_3 a0_4 a0_5 a0_6 a0_7 a0_8 a0_9 l0_10)) else (bellwetherref03_Plain.j1 kj1 true a0_0 a0_1 a0_2 a0_3 a0_4 a0_5 a0_6 a0_7 a0_8 a0_9 l0_10))) else (bellwetherref03_Plain.j1 kj1 true a0_0 a0_1 a0_2 a0_3 a0_4 a0_5 a0_6 a0_7 a0_8 a0_9 l0_10))) else (bellwetherref03_Plain.j1 kj1 true a0_0 a0_1 a0_2 a0_3 a0_4 a0_5 a0_6 a0_7 a0_8 a0_9 l0_10))) else (bellwetherref03_Plain.j1 kj1 true a0_0 a0_1 a0_2 a0_3 a0_4 a0_5 a0_6 a0_7 a0_8 a0_9 l0_10))) else (bellwetherref03_Plain.j1 kj1 true a0_0 a0_1 a0_2 a0_3 a0_4 a0_5 a0_6 a0_7 a0_8 a0_9 l0_10)) = some r := H
       have A18 := Aside0.mk A180
       clear A180
       by_cases c19 : t136 = true
       ·
        subst c19
        have H1 : ((bellwetherref03_within.f a0_5 0 (wrap64 (a0_4 - 1))).bind fun t137 => (if t137 = true then ((bellwetherref03_within.f a0_6 0 30000).bind fun t138 => (if t138 = true then ((bellwetherref03_within.f a0_7 1 30000).bind fun t139 => (if t139 = true then ((bellwetherref03_within.f a0_8 2 250).bind fun t140 => (if t140 = true then ((bellwetherref03_within.f a0_9 1 100).bind fun t141 => (bellwetherref03_Plain.j1 kj1 (!t141) a0_0 a0_1 a0_2 a0_3 a0_4 a0_5 a0_6 a0_7 a0_8 a0_9 l0_10)) else (bellwetherref03_Plain.j1 kj1 true a0_0 a0_1 a0_2 a0_3 a0_4 a0_5 a0_6 a0_7 a0_8 a0_9 l0_10))) else (bellwetherref03_Plain.j1 kj1 true a0_0 a0_1 a0_2 a0_3 a0_4 a0_5 a0_6 a0_7 a0_8 a0_9 l0_10))) else (bellwetherref03_Plain.j1 kj1 true a0_0 a0_1 a0_2 a0_3 a0_4 a0_5 a0_6 a0_7 a0_8 a0_9 l0_10))) else (bellwetherref03_Plain.j1 kj1 true a0_0 a0_1 a0_2 a0_3 a0_4 a0_5 a0_6 a0_7 a0_8 a0_9 l0_10))) = some r := by rw [if_pos rfl] at H; exact H
        clear H
        have H := H1
        clear H1
        replace H := Option.bind_eq_some_iff.mp H
        obtain ⟨t137, A200, H⟩ := H
        replace H : (if t137 = true then ((bellwetherref03_within.f a0_6 0 30000).bind fun t138 => (if t138 = true then ((bellwetherref03_within.f a0_7 1 30000).bind fun t139 => (if t139 = true then ((bellwetherref03_within.f a0_8 2 250).bind fun t140 => (if t140 = true then ((bellwetherref03_within.f a0_9 1 100).bind fun t141 => (bellwetherref03_Plain.j1 kj1 (!t141) a0_0 a0_1 a0_2 a0_3 a0_4 a0_5 a0_6 a0_7 a0_8 a0_9 l0_10)) else (bellwetherref03_Plain.j1 kj1 true a0_0 a0_1 a0_2 a0_3 a0_4 a0_5 a0_6 a0_7 a0_8 a0_9 l0_10))) else (bellwetherref03_Plain.j1 kj1 true a0_0 a0_1 a0_2 a0_3 a0_4 a0_5 a0_6 a0_7 a0_8 a0_9 l0_10))) else (bellwetherref03_Plain.j1 kj1 true a0_0 a0_1 a0_2 a0_3 a0_4 a0_5 a0_6 a0_7 a0_8 a0_9 l0_10))) else (bellwetherref03_Plain.j1 kj1 true a0_0 a0_1 a0_2 a0_3 a0_4 a0_5 a0_6 a0_7 a0_8 a0_9 l0_10)) = some r := H
        have A20 := Aside0.mk A200
        clear A200
        by_cases c21 : t137 = true
        ·
         subst c21
         have H1 : ((bellwetherref03_within.f a0_6 0 30000).bind fun t138 => (if t138 = true then ((bellwetherref03_within.f a0_7 1 30000).bind fun t139 => (if t139 = true then ((bellwetherref03_within.f a0_8 2 250).bind fun t140 => (if t140 = true then ((bellwetherref03_within.f a0_9 1 100).bind fun t141 => (bellwetherref03_Plain.j1 kj1 (!t141) a0_0 a0_1 a0_2 a0_3 a0_4 a0_5 a0_6 a0_7 a0_8 a0_9 l0_10)) else (bellwetherref03_Plain.j1 kj1 true a0_0 a0_1 a0_2 a0_3 a0_4 a0_5 a0_6 a0_7 a0_8 a0_9 l0_10))) else (bellwetherref03_Plain.j1 kj1 true a0_0 a0_1 a0_2 a0_3 a0_4 a0_5 a0_6 a0_7 a0_8 a0_9 l0_10))) else (bellwetherref03_Plain.j1 kj1 true a0_0 a0_1 a0_2 a0_3 a0_4 a0_5 a0_6 a0_7 a0_8 a0_9 l0_10))) = some r := by rw [if_pos rfl] at H; exact H
         clear H
         have H := H1
         clear H1
         replace H := Option.bind_eq_some_iff.mp H
         obtain ⟨t138, A220, H⟩ := H
         replace H : (if t138 = true then ((bellwetherref03_within.f a0_7 1 30000).bind fun t139 => (if t139 = true then ((bellwetherref03_within.f a0_8 2 250).bind fun t140 => (if t140 = true then ((bellwetherref03_within.f a0_9 1 100).bind fun t141 => (bellwetherref03_Plain.j1 kj1 (!t141) a0_0 a0_1 a0_2 a0_3 a0_4 a0_5 a0_6 a0_7 a0_8 a0_9 l0_10)) else (bellwetherref03_Plain.j1 kj1 true a0_0 a0_1 a0_2 a0_3 a0_4 a0_5 a0_6 a0_7 a0_8 a0_9 l0_10))) else (bellwetherref03_Plain.j1 kj1 true a0_0 a0_1 a0_2 a0_3 a0_4 a0_5 a0_6 a0_7 a0_8 a0_9 l0_10))) else (bellwetherref03_Plain.j1 kj1 true a0_0 a0_1 a0_2 a0_3 a0_4 a0_5 a0_6 a0_7 a0_8 a0_9 l0_10)) = some r := H
         have A22 := Aside0.mk A220
         clear A220
         by_cases c23 : t138 = true
         ·
          subst c23
          have H1 : ((bellwetherref03_within.f a0_7 1 30000).bind fun t139 => (if t139 = true then ((bellwetherref03_within.f a0_8 2 250).bind fun t140 => (if t140 = true then ((bellwetherref03_within.f a0_9 1 100).bind fun t141 => (bellwetherref03_Plain.j1 kj1 (!t141) a0_0 a0_1 a0_2 a0_3 a0_4 a0_5 a0_6 a0_7 a0_8 a0_9 l0_10)) else (bellwetherref03_Plain.j1 kj1 true a0_0 a0_1 a0_2 a0_3 a0_4 a0_5 a0_6 a0_7 a0_8 a0_9 l0_10))) else (bellwetherref03_Plain.j1 kj1 true a0_0 a0_1 a0_2 a0_3 a0_4 a0_5 a0_6 a0_7 a0_8 a0_9 l0_10))) = some r := by rw [if_pos rfl] at H; exact H
          clear H
          have H := H1
          clear H1
          replace H := Option.bind_eq_some_iff.mp H
          obtain ⟨t139, A240, H⟩ := H
          replace H : (if t139 = true then ((bellwetherref03_within.f a0_8 2 250).bind fun t140 => (if t140 = true then ((bellwetherref03_within.f a0_9 1 100).bind fun t141 => (bellwetherref03_Plain.j1 kj1 (!t141) a0_0 a0_1 a0_2 a0_3 a0_4 a0_5 a0_6 a0_7 a0_8 a0_9 l0_10)) else (bellwetherref03_Plain.j1 kj1 true a0_0 a0_1 a0_2 a0_3 a0_4 a0_5 a0_6 a0_7 a0_8 a0_9 l0_10))) else (bellwetherref03_Plain.j1 kj1 true a0_0 a0_1 a0_2 a0_3 a0_4 a0_5 a0_6 a0_7 a0_8 a0_9 l0_10)) = some r := H
          have A24 := Aside0.mk A240
          clear A240
          by_cases c25 : t139 = true
          ·
           subst c25
           have H1 : ((bellwetherref03_within.f a0_8 2 250).bind fun t140 => (if t140 = true then ((bellwetherref03_within.f a0_9 1 100).bind fun t141 => (bellwetherref03_Plain.j1 kj1 (!t141) a0_0 a0_1 a0_2 a0_3 a0_4 a0_5 a0_6 a0_7 a0_8 a0_9 l0_10)) else (bellwetherref03_Plain.j1 kj1 true a0_0 a0_1 a0_2 a0_3 a0_4 a0_5 a0_6 a0_7 a0_8 a0_9 l0_10))) = some r := by rw [if_pos rfl] at H; exact H
           clear H
           have H := H1
           clear H1
           replace H := Option.bind_eq_some_iff.mp H
           obtain ⟨t140, A260, H⟩ := H
           replace H : (if t140 = true then ((bellwetherref03_within.f a0_9 1 100).bind fun t141 => (bellwetherref03_Plain.j1 kj1 (!t141) a0_0 a0_1 a0_2 a0_3 a0_4 a0_5 a0_6 a0_7 a0_8 a0_9 l0_10)) else (bellwetherref03_Plain.j1 kj1 true a0_0 a0_1 a0_2 a0_3 a0_4 a0_5 a0_6 a0_7 a0_8 a0_9 l0_10)) = some r := H
           have A26 := Aside0.mk A260
           clear A260
           by_cases c27 : t140 = true
           ·
            subst c27
            have H1 : ((bellwetherref03_within.f a0_9 1 100).bind fun t141 => (bellwetherref03_Plain.j1 kj1 (!t141) a0_0 a0_1 a0_2 a0_3 a0_4 a0_5 a0_6 a0_7 a0_8 a0_9 l0_10)) = some r := by rw [if_pos rfl] at H; exact H
            clear H
            have H := H1
            clear H1
            replace H := Option.bind_eq_some_iff.mp H
            obtain ⟨t141, A280, H⟩ := H
            replace H : (bellwetherref03_Plain.j1 kj1 (!t141) a0_0 a0_1 a0_2 a0_3 a0_4 a0_5 a0_6 a0_7 a0_8 a0_9 l0_10) = some r := H
            have A28 := Aside0.mk A280
            clear A280
            have H' := Aside0.mk H
            clear H
            have hcz29_0 : wc.cell? ⟨gb131, 0, none⟩ = some (.int .i64 a0_0) := (blk_cell BK131.out 0).trans rfl
            have hcz29_1 : wc.cell? ⟨gb131, 1, none⟩ = some (.int .i64 a0_1) := (blk_cell BK131.out 1).trans rfl
            have hcz29_2 : wc.cell? ⟨gb131, 2, none⟩ = some (.int .i64 a0_2) := (blk_cell BK131.out 2).trans rfl
            have hcz29_3 : wc.cell? ⟨gb131, 3, none⟩ = some (.int .i64 a0_3) := (blk_cell BK131.out 3).trans rfl
            have hcz29_4 : wc.cell? ⟨gb131, 4, none⟩ = some (.int .i64 a0_4) := (blk_cell BK131.out 4).trans rfl
            have hcz29_5 : wc.cell? ⟨gb131, 5, none⟩ = some (.int .i64 a0_5) := (blk_cell BK131.out 5).trans rfl
            have hcz29_6 : wc.cell? ⟨gb131, 6, none⟩ = some (.int .i64 a0_6) := (blk_cell BK131.out 6).trans rfl
            have hcz29_7 : wc.cell? ⟨gb131, 7, none⟩ = some (.int .i64 a0_7) := (blk_cell BK131.out 7).trans rfl
            have hcz29_8 : wc.cell? ⟨gb131, 8, none⟩ = some (.int .i64 a0_8) := (blk_cell BK131.out 8).trans rfl
            have hcz29_9 : wc.cell? ⟨gb131, 9, none⟩ = some (.int .i64 a0_9) := (blk_cell BK131.out 9).trans rfl
            have hcz29_10 : wc.cell? ⟨gb131, 10, none⟩ = some (.slice A0_10 l0_10.length c0_10) := (blk_cell BK131.out 10).trans rfl
            have hfz29_0 := blk_frozen BK131.out 0
            have hfz29_1 := blk_frozen BK131.out 1
            have hfz29_2 := blk_frozen BK131.out 2
            have hfz29_3 := blk_frozen BK131.out 3
            have hfz29_4 := blk_frozen BK131.out 4
            have hfz29_5 := blk_frozen BK131.out 5
            have hfz29_6 := blk_frozen BK131.out 6
            have hfz29_7 := blk_frozen BK131.out 7
            have hfz29_8 := blk_frozen BK131.out 8
            have hfz29_9 := blk_frozen BK131.out 9
            have hfz29_10 := blk_frozen BK131.out 10
            go_wp2_with (first | ((with_reducible refine gate_callee (f := 46) rfl ?_); refine goesL_ (some 35) rfl rfl Try.func46 (by kernel_rfl) rfl #[.int .i64 a0_3, .int .i64 (wrap64 ((wrap64 ((wrap64 (6 * (wrap64 (a0_1 + 1)))) * a0_2)) + 1)), .int .i64 400] rfl (by (try simp only [List.map_toArray, List.map_cons, List.map_nil]); first | done | rfl | (simp only [List.length_drop, List.length_take]; rfl)) ?_; (with_reducible refine (bellwetherref03_within.calls a0_3 (wrap64 ((wrap64 ((wrap64 (6 * (wrap64 (a0_1 + 1)))) * a0_2)) + 1)) 400 true _ A16.out).mono ?_); rintro e w' ⟨rfl, ⟨nd, rfl⟩⟩; refine ⟨_, rfl, ?_⟩) | (go_at_call 46; (with_reducible refine (bellwetherref03_within.calls a0_4 1 64 true _ A18.out).mono ?_); rintro e w' ⟨rfl, ⟨nd, rfl⟩⟩) | (go_at_call 46; (with_reducible refine (bellwetherref03_within.calls a0_5 0 (wrap64 (a0_4 - 1)) true _ A20.out).mono ?_); rintro e w' ⟨rfl, ⟨nd, rfl⟩⟩) | (go_at_call 46; (with_reducible refine (bellwetherref03_within.calls a0_6 0 30000 true _ A22.out).mono ?_); rintro e w' ⟨rfl, ⟨nd, rfl⟩⟩) | (go_at_call 46; (with_reducible refine (bellwetherref03_within.calls a0_7 1 30000 true _ A24.out).mono ?_); rintro e w' ⟨rfl, ⟨nd, rfl⟩⟩) | (go_at_call 46; (with_reducible refine (bellwetherref03_within.calls a0_8 2 250 true _ A26.out).mono ?_); rintro e w' ⟨rfl, ⟨nd, rfl⟩⟩) | (go_at_call 46; (with_reducible refine (bellwetherref03_within.calls a0_9 1 100 t141 _ A28.out).mono ?_); rintro e w' ⟨rfl, ⟨nd, rfl⟩⟩))
            go_meet
            case rel => exact ⟨_, (!t141), (by first | rfl | (simp; done) | (simp [*]; done)), H', ⟨by have := HJ1.out; first | omega | exact Nat.le_refl _⟩, ⟨by (with_reducible repeat (first | refine blk_drewN ?_ _ | refine blk_drew ?_ | refine blk_alloc ?_ _)); exact BK131.out⟩, ⟨by repeat (first | (with_reducible first | exact HB.out | apply below_alloc | apply pw_below_drewN | apply below_drew1 | refine below_set ?_ GE131.out) | exact HB.out)⟩⟩
           ·
            replace c27 := Bool.eq_false_iff.mpr c27
            subst c27
            have H1 : (bellwetherref03_Plain.j1 kj1 true a0_0 a0_1 a0_2 a0_3 a0_4 a0_5 a0_6 a0_7 a0_8 a0_9 l0_10) = some r := by rw [if_neg (show ¬ (false = true) by decide)] at H; exact H
            clear H
            have H := H1
            clear H1
            have H' := Aside0.mk H
            clear H
            have hcz30_0 : wc.cell? ⟨gb131, 0, none⟩ = some (.int .i64 a0_0) := (blk_cell BK131.out 0).trans rfl
            have hcz30_1 : wc.cell? ⟨gb131, 1, none⟩ = some (.int .i64 a0_1) := (blk_cell BK131.out 1).trans rfl
            have hcz30_2 : wc.cell? ⟨gb131, 2, none⟩ = some (.int .i64 a0_2) := (blk_cell BK131.out 2).trans rfl
            have hcz30_3 : wc.cell? ⟨gb131, 3, none⟩ = some (.int .i64 a0_3) := (blk_cell BK131.out 3).trans rfl
            have hcz30_4 : wc.cell? ⟨gb131, 4, none⟩ = some (.int .i64 a0_4) := (blk_cell BK131.out 4).trans rfl
            have hcz30_5 : wc.cell? ⟨gb131, 5, none⟩ = some (.int .i64 a0_5) := (blk_cell BK131.out 5).trans rfl
            have hcz30_6 : wc.cell? ⟨gb131, 6, none⟩ = some (.int .i64 a0_6) := (blk_cell BK131.out 6).trans rfl
            have hcz30_7 : wc.cell? ⟨gb131, 7, none⟩ = some (.int .i64 a0_7) := (blk_cell BK131.out 7).trans rfl
            have hcz30_8 : wc.cell? ⟨gb131, 8, none⟩ = some (.int .i64 a0_8) := (blk_cell BK131.out 8).trans rfl
            have hcz30_9 : wc.cell? ⟨gb131, 9, none⟩ = some (.int .i64 a0_9) := (blk_cell BK131.out 9).trans rfl
            have hcz30_10 : wc.cell? ⟨gb131, 10, none⟩ = some (.slice A0_10 l0_10.length c0_10) := (blk_cell BK131.out 10).trans rfl
            have hfz30_0 := blk_frozen BK131.out 0
            have hfz30_1 := blk_frozen BK131.out 1
            have hfz30_2 := blk_frozen BK131.out 2
            have hfz30_3 := blk_frozen BK131.out 3
            have hfz30_4 := blk_frozen BK131.out 4
            have hfz30_5 := blk_frozen BK131.out 5
            have hfz30_6 := blk_frozen BK131.out 6
            have hfz30_7 := blk_frozen BK131.out 7
            have hfz30_8 := blk_frozen BK131.out 8
            have hfz30_9 := blk_frozen BK131.out 9
            have hfz30_10 := blk_frozen BK131.out 10
            go_wp2_with (first | ((with_reducible refine gate_callee (f := 46) rfl ?_); refine goesL_ (some 35) rfl rfl Try.func46 (by kernel_rfl) rfl #[.int .i64 a0_3, .int .i64 (wrap64 ((wrap64 ((wrap64 (6 * (wrap64 (a0_1 + 1)))) * a0_2)) + 1)), .int .i64 400] rfl (by (try simp only [List.map_toArray, List.map_cons, List.map_nil]); first | done | rfl | (simp only [List.length_drop, List.length_take]; rfl)) ?_; (with_reducible refine (bellwetherref03_within.calls a0_3 (wrap64 ((wrap64 ((wrap64 (6 * (wrap64 (a0_1 + 1)))) * a0_2)) + 1)) 400 true _ A16.out).mono ?_); rintro e w' ⟨rfl, ⟨nd, rfl⟩⟩; refine ⟨_, rfl, ?_⟩) | (go_at_call 46; (with_reducible refine (bellwetherref03_within.calls a0_4 1 64 true _ A18.out).mono ?_); rintro e w' ⟨rfl, ⟨nd, rfl⟩⟩) | (go_at_call 46; (with_reducible refine (bellwetherref03_within.calls a0_5 0 (wrap64 (a0_4 - 1)) true _ A20.out).mono ?_); rintro e w' ⟨rfl, ⟨nd, rfl⟩⟩) | (go_at_call 46; (with_reducible refine (bellwetherref03_within.calls a0_6 0 30000 true _ A22.out).mono ?_); rintro e w' ⟨rfl, ⟨nd, rfl⟩⟩) | (go_at_call 46; (with_reducible refine (bellwetherref03_within.calls a0_7 1 30000 true _ A24.out).mono ?_); rintro e w' ⟨rfl, ⟨nd, rfl⟩⟩) | (go_at_call 46; (with_reducible refine (bellwetherref03_within.calls a0_8 2 250 false _ A26.out).mono ?_); rintro e w' ⟨rfl, ⟨nd, rfl⟩⟩))
            go_meet
            case rel => exact ⟨_, (true), (by first | rfl | (simp; done) | (simp [*]; done)), H', ⟨by have := HJ1.out; first | omega | exact Nat.le_refl _⟩, ⟨by (with_reducible repeat (first | refine blk_drewN ?_ _ | refine blk_drew ?_ | refine blk_alloc ?_ _)); exact BK131.out⟩, ⟨by repeat (first | (with_reducible first | exact HB.out | apply below_alloc | apply pw_below_drewN | apply below_drew1 | refine below_set ?_ GE131.out) | exact HB.out)⟩⟩
          ·
           replace c25 := Bool.eq_false_iff.mpr c25
           subst c25
           have H1 : (bellwetherref03_Plain.j1 kj1 true a0_0 a0_1 a0_2 a0_3 a0_4 a0_5 a0_6 a0_7 a0_8 a0_9 l0_10) = some r := by rw [if_neg (show ¬ (false = true) by decide)] at H; exact H
           clear H
           have H := H1
           clear H1
           have H' := Aside0.mk H
           clear H
           have hcz31_0 : wc.cell? ⟨gb131, 0, none⟩ = some (.int .i64 a0_0) := (blk_cell BK131.out 0).trans rfl
           have hcz31_1 : wc.cell? ⟨gb131, 1, none⟩ = some (.int .i64 a0_1) := (blk_cell BK131.out 1).trans rfl
           have hcz31_2 : wc.cell? ⟨gb131, 2, none⟩ = some (.int .i64 a0_2) := (blk_cell BK131.out 2).trans rfl
           have hcz31_3 : wc.cell? ⟨gb131, 3, none⟩ = some (.int .i64 a0_3) := (blk_cell BK131.out 3).trans rfl
           have hcz31_4 : wc.cell? ⟨gb131, 4, none⟩ = some (.int .i64 a0_4) := (blk_cell BK131.out 4).trans rfl
           have hcz31_5 : wc.cell? ⟨gb131, 5, none⟩ = some (.int .i64 a0_5) := (blk_cell BK131.out 5).trans rfl
           have hcz31_6 : wc.cell? ⟨gb131, 6, none⟩ = some (.int .i64 a0_6) := (blk_cell BK131.out 6).trans rfl
           have hcz31_7 : wc.cell? ⟨gb131, 7, none⟩ = some (.int .i64 a0_7) := (blk_cell BK131.out 7).trans rfl
           have hcz31_8 : wc.cell? ⟨gb131, 8, none⟩ = some (.int .i64 a0_8) := (blk_cell BK131.out 8).trans rfl
           have hcz31_9 : wc.cell? ⟨gb131, 9, none⟩ = some (.int .i64 a0_9) := (blk_cell BK131.out 9).trans rfl
           have hcz31_10 : wc.cell? ⟨gb131, 10, none⟩ = some (.slice A0_10 l0_10.length c0_10) := (blk_cell BK131.out 10).trans rfl
           have hfz31_0 := blk_frozen BK131.out 0
           have hfz31_1 := blk_frozen BK131.out 1
           have hfz31_2 := blk_frozen BK131.out 2
           have hfz31_3 := blk_frozen BK131.out 3
           have hfz31_4 := blk_frozen BK131.out 4
           have hfz31_5 := blk_frozen BK131.out 5
           have hfz31_6 := blk_frozen BK131.out 6
           have hfz31_7 := blk_frozen BK131.out 7
           have hfz31_8 := blk_frozen BK131.out 8
           have hfz31_9 := blk_frozen BK131.out 9
           have hfz31_10 := blk_frozen BK131.out 10
           go_wp2_with (first | ((with_reducible refine gate_callee (f := 46) rfl ?_); refine goesL_ (some 35) rfl rfl Try.func46 (by kernel_rfl) rfl #[.int .i64 a0_3, .int .i64 (wrap64 ((wrap64 ((wrap64 (6 * (wrap64 (a0_1 + 1)))) * a0_2)) + 1)), .int .i64 400] rfl (by (try simp only [List.map_toArray, List.map_cons, List.map_nil]); first | done | rfl | (simp only [List.length_drop, List.length_take]; rfl)) ?_; (with_reducible refine (bellwetherref03_within.calls a0_3 (wrap64 ((wrap64 ((wrap64 (6 * (wrap64 (a0_1 + 1)))) * a0_2)) + 1)) 400 true _ A16.out).mono ?_); rintro e w' ⟨rfl, ⟨nd, rfl⟩⟩; refine ⟨_, rfl, ?_⟩) | (go_at_call 46; (with_reducible refine (bellwetherref03_within.calls a0_4 1 64 true _ A18.out).mono ?_); rintro e w' ⟨rfl, ⟨nd, rfl⟩⟩) | (go_at_call 46; (with_reducible refine (bellwetherref03_within.calls a0_5 0 (wrap64 (a0_4 - 1)) true _ A20.out).mono ?_); rintro e w' ⟨rfl, ⟨nd, rfl⟩⟩) | (go_at_call 46; (with_reducible refine (bellwetherref03_within.calls a0_6 0 30000 true _ A22.out).mono ?_); rintro e w' ⟨rfl, ⟨nd, rfl⟩⟩) | (go_at_call 46; (with_reducible refine (bellwetherref03_within.calls a0_7 1 30000 false _ A24.out).mono ?_); rintro e w' ⟨rfl, ⟨nd, rfl⟩⟩))
           go_meet
           case rel => exact ⟨_, (true), (by first | rfl | (simp; done) | (simp [*]; done)), H', ⟨by have := HJ1.out; first | omega | exact Nat.le_refl _⟩, ⟨by (with_reducible repeat (first | refine blk_drewN ?_ _ | refine blk_drew ?_ | refine blk_alloc ?_ _)); exact BK131.out⟩, ⟨by repeat (first | (with_reducible first | exact HB.out | apply below_alloc | apply pw_below_drewN | apply below_drew1 | refine below_set ?_ GE131.out) | exact HB.out)⟩⟩
         ·
          replace c23 := Bool.eq_false_iff.mpr c23
          subst c23
          have H1 : (bellwetherref03_Plain.j1 kj1 true a0_0 a0_1 a0_2 a0_3 a0_4 a0_5 a0_6 a0_7 a0_8 a0_9 l0_10) = some r := by rw [if_neg (show ¬ (false = true) by decide)] at H; exact H
          clear H
          have H := H1
          clear H1
          have H' := Aside0.mk H
          clear H
          have hcz32_0 : wc.cell? ⟨gb131, 0, none⟩ = some (.int .i64 a0_0) := (blk_cell BK131.out 0).trans rfl
          have hcz32_1 : wc.cell? ⟨gb131, 1, none⟩ = some (.int .i64 a0_1) := (blk_cell BK131.out 1).trans rfl
          have hcz32_2 : wc.cell? ⟨gb131, 2, none⟩ = some (.int .i64 a0_2) := (blk_cell BK131.out 2).trans rfl
          have hcz32_3 : wc.cell? ⟨gb131, 3, none⟩ = some (.int .i64 a0_3) := (blk_cell BK131.out 3).trans rfl
          have hcz32_4 : wc.cell? ⟨gb131, 4, none⟩ = some (.int .i64 a0_4) := (blk_cell BK131.out 4).trans rfl
          have hcz32_5 : wc.cell? ⟨gb131, 5, none⟩ = some (.int .i64 a0_5) := (blk_cell BK131.out 5).trans rfl
          have hcz32_6 : wc.cell? ⟨gb131, 6, none⟩ = some (.int .i64 a0_6) := (blk_cell BK131.out 6).trans rfl
          have hcz32_7 : wc.cell? ⟨gb131, 7, none⟩ = some (.int .i64 a0_7) := (blk_cell BK131.out 7).trans rfl
          have hcz32_8 : wc.cell? ⟨gb131, 8, none⟩ = some (.int .i64 a0_8) := (blk_cell BK131.out 8).trans rfl
          have hcz32_9 : wc.cell? ⟨gb131, 9, none⟩ = some (.int .i64 a0_9) := (blk_cell BK131.out 9).trans rfl
          have hcz32_10 : wc.cell? ⟨gb131, 10, none⟩ = some (.slice A0_10 l0_10.length c0_10) := (blk_cell BK131.out 10).trans rfl
          have hfz32_0 := blk_frozen BK131.out 0
          have hfz32_1 := blk_frozen BK131.out 1
          have hfz32_2 := blk_frozen BK131.out 2
          have hfz32_3 := blk_frozen BK131.out 3
          have hfz32_4 := blk_frozen BK131.out 4
          have hfz32_5 := blk_frozen BK131.out 5
          have hfz32_6 := blk_frozen BK131.out 6
          have hfz32_7 := blk_frozen BK131.out 7
          have hfz32_8 := blk_frozen BK131.out 8
          have hfz32_9 := blk_frozen BK131.out 9
          have hfz32_10 := blk_frozen BK131.out 10
          go_wp2_with (first | ((with_reducible refine gate_callee (f := 46) rfl ?_); refine goesL_ (some 35) rfl rfl Try.func46 (by kernel_rfl) rfl #[.int .i64 a0_3, .int .i64 (wrap64 ((wrap64 ((wrap64 (6 * (wrap64 (a0_1 + 1)))) * a0_2)) + 1)), .int .i64 400] rfl (by (try simp only [List.map_toArray, List.map_cons, List.map_nil]); first | done | rfl | (simp only [List.length_drop, List.length_take]; rfl)) ?_; (with_reducible refine (bellwetherref03_within.calls a0_3 (wrap64 ((wrap64 ((wrap64 (6 * (wrap64 (a0_1 + 1)))) * a0_2)) + 1)) 400 true _ A16.out).mono ?_); rintro e w' ⟨rfl, ⟨nd, rfl⟩⟩; refine ⟨_, rfl, ?_⟩) | (go_at_call 46; (with_reducible refine (bellwetherref03_within.calls a0_4 1 64 true _ A18.out).mono ?_); rintro e w' ⟨rfl, ⟨nd, rfl⟩⟩) | (go_at_call 46; (with_reducible refine (bellwetherref03_within.calls a0_5 0 (wrap64 (a0_4 - 1)) true _ A20.out).mono ?_); rintro e w' ⟨rfl, ⟨nd, rfl⟩⟩) | (go_at_call 46; (with_reducible refine (bellwetherref03_within.calls a0_6 0 30000 false _ A22.out).mono ?_); rintro e w' ⟨rfl, ⟨nd, rfl⟩⟩))
          go_meet
          case rel => exact ⟨_, (true), (by first | rfl | (simp; done) | (simp [*]; done)), H', ⟨by have := HJ1.out; first | omega | exact Nat.le_refl _⟩, ⟨by (with_reducible repeat (first | refine blk_drewN ?_ _ | refine blk_drew ?_ | refine blk_alloc ?_ _)); exact BK131.out⟩, ⟨by repeat (first | (with_reducible first | exact HB.out | apply below_alloc | apply pw_below_drewN | apply below_drew1 | refine below_set ?_ GE131.out) | exact HB.out)⟩⟩
        ·
         replace c21 := Bool.eq_false_iff.mpr c21
         subst c21
         have H1 : (bellwetherref03_Plain.j1 kj1 true a0_0 a0_1 a0_2 a0_3 a0_4 a0_5 a0_6 a0_7 a0_8 a0_9 l0_10) = some r := by rw [if_neg (show ¬ (false = true) by decide)] at H; exact H
         clear H
         have H := H1
         clear H1
         have H' := Aside0.mk H
         clear H
         have hcz33_0 : wc.cell? ⟨gb131, 0, none⟩ = some (.int .i64 a0_0) := (blk_cell BK131.out 0).trans rfl
         have hcz33_1 : wc.cell? ⟨gb131, 1, none⟩ = some (.int .i64 a0_1) := (blk_cell BK131.out 1).trans rfl
         have hcz33_2 : wc.cell? ⟨gb131, 2, none⟩ = some (.int .i64 a0_2) := (blk_cell BK131.out 2).trans rfl
         have hcz33_3 : wc.cell? ⟨gb131, 3, none⟩ = some (.int .i64 a0_3) := (blk_cell BK131.out 3).trans rfl
         have hcz33_4 : wc.cell? ⟨gb131, 4, none⟩ = some (.int .i64 a0_4) := (blk_cell BK131.out 4).trans rfl
         have hcz33_5 : wc.cell? ⟨gb131, 5, none⟩ = some (.int .i64 a0_5) := (blk_cell BK131.out 5).trans rfl
         have hcz33_6 : wc.cell? ⟨gb131, 6, none⟩ = some (.int .i64 a0_6) := (blk_cell BK131.out 6).trans rfl
         have hcz33_7 : wc.cell? ⟨gb131, 7, none⟩ = some (.int .i64 a0_7) := (blk_cell BK131.out 7).trans rfl
         have hcz33_8 : wc.cell? ⟨gb131, 8, none⟩ = some (.int .i64 a0_8) := (blk_cell BK131.out 8).trans rfl
         have hcz33_9 : wc.cell? ⟨gb131, 9, none⟩ = some (.int .i64 a0_9) := (blk_cell BK131.out 9).trans rfl
         have hcz33_10 : wc.cell? ⟨gb131, 10, none⟩ = some (.slice A0_10 l0_10.length c0_10) := (blk_cell BK131.out 10).trans rfl
         have hfz33_0 := blk_frozen BK131.out 0
         have hfz33_1 := blk_frozen BK131.out 1
         have hfz33_2 := blk_frozen BK131.out 2
         have hfz33_3 := blk_frozen BK131.out 3
         have hfz33_4 := blk_frozen BK131.out 4
         have hfz33_5 := blk_frozen BK131.out 5
         have hfz33_6 := blk_frozen BK131.out 6
         have hfz33_7 := blk_frozen BK131.out 7
         have hfz33_8 := blk_frozen BK131.out 8
         have hfz33_9 := blk_frozen BK131.out 9
         have hfz33_10 := blk_frozen BK131.out 10
         go_wp2_with (first | ((with_reducible refine gate_callee (f := 46) rfl ?_); refine goesL_ (some 35) rfl rfl Try.func46 (by kernel_rfl) rfl #[.int .i64 a0_3, .int .i64 (wrap64 ((wrap64 ((wrap64 (6 * (wrap64 (a0_1 + 1)))) * a0_2)) + 1)), .int .i64 400] rfl (by (try simp only [List.map_toArray, List.map_cons, List.map_nil]); first | done | rfl | (simp only [List.length_drop, List.length_take]; rfl)) ?_; (with_reducible refine (bellwetherref03_within.calls a0_3 (wrap64 ((wrap64 ((wrap64 (6 * (wrap64 (a0_1 + 1)))) * a0_2)) + 1)) 400 true _ A16.out).mono ?_); rintro e w' ⟨rfl, ⟨nd, rfl⟩⟩; refine ⟨_, rfl, ?_⟩) | (go_at_call 46; (with_reducible refine (bellwetherref03_within.calls a0_4 1 64 true _ A18.out).mono ?_); rintro e w' ⟨rfl, ⟨nd, rfl⟩⟩) | (go_at_call 46; (with_reducible refine (bellwetherref03_within.calls a0_5 0 (wrap64 (a0_4 - 1)) false _ A20.out).mono ?_); rintro e w' ⟨rfl, ⟨nd, rfl⟩⟩))
         go_meet
         case rel => exact ⟨_, (true), (by first | rfl | (simp; done) | (simp [*]; done)), H', ⟨by have := HJ1.out; first | omega | exact Nat.le_refl _⟩, ⟨by (with_reducible repeat (first | refine blk_drewN ?_ _ | refine blk_drew ?_ | refine blk_alloc ?_ _)); exact BK131.out⟩, ⟨by repeat (first | (with_reducible first | exact HB.out | apply below_alloc | apply pw_below_drewN | apply below_drew1 | refine below_set ?_ GE131.out) | exact HB.out)⟩⟩
       ·
        replace c19 := Bool.eq_false_iff.mpr c19
        subst c19
        have H1 : (bellwetherref03_Plain.j1 kj1 true a0_0 a0_1 a0_2 a0_3 a0_4 a0_5 a0_6 a0_7 a0_8 a0_9 l0_10) = some r := by rw [if_neg (show ¬ (false = true) by decide)] at H; exact H
        clear H
        have H := H1
        clear H1
        have H' := Aside0.mk H
        clear H
        have hcz34_0 : wc.cell? ⟨gb131, 0, none⟩ = some (.int .i64 a0_0) := (blk_cell BK131.out 0).trans rfl
        have hcz34_1 : wc.cell? ⟨gb131, 1, none⟩ = some (.int .i64 a0_1) := (blk_cell BK131.out 1).trans rfl
        have hcz34_2 : wc.cell? ⟨gb131, 2, none⟩ = some (.int .i64 a0_2) := (blk_cell BK131.out 2).trans rfl
        have hcz34_3 : wc.cell? ⟨gb131, 3, none⟩ = some (.int .i64 a0_3) := (blk_cell BK131.out 3).trans rfl
        have hcz34_4 : wc.cell? ⟨gb131, 4, none⟩ = some (.int .i64 a0_4) := (blk_cell BK131.out 4).trans rfl
        have hcz34_5 : wc.cell? ⟨gb131, 5, none⟩ = some (.int .i64 a0_5) := (blk_cell BK131.out 5).trans rfl
        have hcz34_6 : wc.cell? ⟨gb131, 6, none⟩ = some (.int .i64 a0_6) := (blk_cell BK131.out 6).trans rfl
        have hcz34_7 : wc.cell? ⟨gb131, 7, none⟩ = some (.int .i64 a0_7) := (blk_cell BK131.out 7).trans rfl
        have hcz34_8 : wc.cell? ⟨gb131, 8, none⟩ = some (.int .i64 a0_8) := (blk_cell BK131.out 8).trans rfl
        have hcz34_9 : wc.cell? ⟨gb131, 9, none⟩ = some (.int .i64 a0_9) := (blk_cell BK131.out 9).trans rfl
        have hcz34_10 : wc.cell? ⟨gb131, 10, none⟩ = some (.slice A0_10 l0_10.length c0_10) := (blk_cell BK131.out 10).trans rfl
        have hfz34_0 := blk_frozen BK131.out 0
        have hfz34_1 := blk_frozen BK131.out 1
        have hfz34_2 := blk_frozen BK131.out 2
        have hfz34_3 := blk_frozen BK131.out 3
        have hfz34_4 := blk_frozen BK131.out 4
        have hfz34_5 := blk_frozen BK131.out 5
        have hfz34_6 := blk_frozen BK131.out 6
        have hfz34_7 := blk_frozen BK131.out 7
        have hfz34_8 := blk_frozen BK131.out 8
        have hfz34_9 := blk_frozen BK131.out 9
        have hfz34_10 := blk_frozen BK131.out 10
        go_wp2_with (first | ((with_reducible refine gate_callee (f := 46) rfl ?_); refine goesL_ (some 35) rfl rfl Try.func46 (by kernel_rfl) rfl #[.int .i64 a0_3, .int .i64 (wrap64 ((wrap64 ((wrap64 (6 * (wrap64 (a0_1 + 1)))) * a0_2)) + 1)), .int .i64 400] rfl (by (try simp only [List.map_toArray, List.map_cons, List.map_nil]); first | done | rfl | (simp only [List.length_drop, List.length_take]; rfl)) ?_; (with_reducible refine (bellwetherref03_within.calls a0_3 (wrap64 ((wrap64 ((wrap64 (6 * (wrap64 (a0_1 + 1)))) * a0_2)) + 1)) 400 true _ A16.out).mono ?_); rintro e w' ⟨rfl, ⟨nd, rfl⟩⟩; refine ⟨_, rfl, ?_⟩) | (go_at_call 46; (with_reducible refine (bellwetherref03_within.calls a0_4 1 64 false _ A18.out).mono ?_); rintro e w' ⟨rfl, ⟨nd, rfl⟩⟩))
        go_meet
        case rel => exact ⟨_, (true), (by first | rfl | (simp; done) | (simp [*]; done)), H', ⟨by have := HJ1.out; first | omega | exact Nat.le_refl _⟩, ⟨by (with_reducible repeat (first | refine blk_drewN ?_ _ | refine blk_drew ?_ | refine blk_alloc ?_ _)); exact BK131.out⟩, ⟨by repeat (first | (with_reducible first | exact HB.out | apply below_alloc | apply pw_below_drewN | apply below_drew1 | refine below_set ?_ GE131.out) | exact HB.out)⟩⟩
      ·
       replace c17 := Bool.eq_false_iff.mpr c17
       subst c17
       have H1 : (bellwetherref03_Plain.j1 kj1 true a0_0 a0_1 a0_2 a0_3 a0_4 a0_5 a0_6 a0_7 a0_8 a0_9 l0_10) = some r := by rw [if_neg (show ¬ (false = true) by decide)] at H; exact H
       clear H
       have H := H1
       clear H1
       have H' := Aside0.mk H
       clear H
       have hcz35_0 : wc.cell? ⟨gb131, 0, none⟩ = some (.int .i64 a0_0) := (blk_cell BK131.out 0).trans rfl
       have hcz35_1 : wc.cell? ⟨gb131, 1, none⟩ = some (.int .i64 a0_1) := (blk_cell BK131.out 1).trans rfl
       have hcz35_2 : wc.cell? ⟨gb131, 2, none⟩ = some (.int .i64 a0_2) := (blk_cell BK131.out 2).trans rfl
       have hcz35_3 : wc.cell? ⟨gb131, 3, none⟩ = some (.int .i64 a0_3) := (blk_cell BK131.out 3).trans rfl
       have hcz35_4 : wc.cell? ⟨gb131, 4, none⟩ = some (.int .i64 a0_4) := (blk_cell BK131.out 4).trans rfl
       have hcz35_5 : wc.cell? ⟨gb131, 5, none⟩ = some (.int .i64 a0_5) := (blk_cell BK131.out 5).trans rfl
       have hcz35_6 : wc.cell? ⟨gb131, 6, none⟩ = some (.int .i64 a0_6) := (blk_cell BK131.out 6).trans rfl
       have hcz35_7 : wc.cell? ⟨gb131, 7, none⟩ = some (.int .i64 a0_7) := (blk_cell BK131.out 7).trans rfl
       have hcz35_8 : wc.cell? ⟨gb131, 8, none⟩ = some (.int .i64 a0_8) := (blk_cell BK131.out 8).trans rfl
       have hcz35_9 : wc.cell? ⟨gb131, 9, none⟩ = some (.int .i64 a0_9) := (blk_cell BK131.out 9).trans rfl
       have hcz35_10 : wc.cell? ⟨gb131, 10, none⟩ = some (.slice A0_10 l0_10.length c0_10) := (blk_cell BK131.out 10).trans rfl
       have hfz35_0 := blk_frozen BK131.out 0
       have hfz35_1 := blk_frozen BK131.out 1
       have hfz35_2 := blk_frozen BK131.out 2
       have hfz35_3 := blk_frozen BK131.out 3
       have hfz35_4 := blk_frozen BK131.out 4
       have hfz35_5 := blk_frozen BK131.out 5
       have hfz35_6 := blk_frozen BK131.out 6
       have hfz35_7 := blk_frozen BK131.out 7
       have hfz35_8 := blk_frozen BK131.out 8
       have hfz35_9 := blk_frozen BK131.out 9
       have hfz35_10 := blk_frozen BK131.out 10
       go_wp2_with (first | ((with_reducible refine gate_callee (f := 46) rfl ?_); refine goesL_ (some 35) rfl rfl Try.func46 (by kernel_rfl) rfl #[.int .i64 a0_3, .int .i64 (wrap64 ((wrap64 ((wrap64 (6 * (wrap64 (a0_1 + 1)))) * a0_2)) + 1)), .int .i64 400] rfl (by (try simp only [List.map_toArray, List.map_cons, List.map_nil]); first | done | rfl | (simp only [List.length_drop, List.length_take]; rfl)) ?_; (with_reducible refine (bellwetherref03_within.calls a0_3 (wrap64 ((wrap64 ((wrap64 (6 * (wrap64 (a0_1 + 1)))) * a0_2)) + 1)) 400 false _ A16.out).mono ?_); rintro e w' ⟨rfl, ⟨nd, rfl⟩⟩; refine ⟨_, rfl, ?_⟩))
       go_meet
       case rel => exact ⟨_, (true), (by first | rfl | (simp; done) | (simp [*]; done)), H', ⟨by have := HJ1.out; first | omega | exact Nat.le_refl _⟩, ⟨by (with_reducible repeat (first | refine blk_drewN ?_ _ | refine blk_drew ?_ | refine blk_alloc ?_ _)); exact BK131.out⟩, ⟨by repeat (first | (with_reducible first | exact HB.out | apply below_alloc | apply pw_below_drewN | apply below_drew1 | refine below_set ?_ GE131.out) | exact HB.out)⟩⟩
     case rest =>
      clear HC14
      try clear c1
      try clear c2
      try clear p2
      try clear c4
      try clear c5
      try clear p6
      try clear c7
      try clear c11
      try clear c13
      try clear c17
      try clear c19
      try clear c21
      try clear c22
      try clear c23
      try clear c25
      try clear c27
      try clear hcz10_0
      try clear hcz10_1
      try clear hcz10_10
      try clear hcz10_2
      try clear hcz10_3
      try clear hcz10_4
      try clear hcz10_5
      try clear hcz10_6
      try clear hcz10_7
      try clear hcz10_8
      try clear hcz10_9
      try clear hcz15_0
      try clear hcz15_1
      try clear hcz15_10
      try clear hcz15_2
      try clear hcz15_3
      try clear hcz15_4
      try clear hcz15_5
      try clear hcz15_6
      try clear hcz15_7
      try clear hcz15_8
      try clear hcz15_9
      try clear hcz29_0
      try clear hcz29_1
      try clear hcz29_10
      try clear hcz29_2
      try clear hcz29_3
      try clear hcz29_4
      try clear hcz29_5
      try clear hcz29_6
      try clear hcz29_7
      try clear hcz29_8
      try clear hcz29_9
      try clear hcz30_0
      try clear hcz30_1
      try clear hcz30_10
      try clear hcz30_2
      try clear hcz30_3
      try clear hcz30_4
      try clear hcz30_5
      try clear hcz30_6
      try clear hcz30_7
      try clear hcz30_8
      try clear hcz30_9
      try clear hcz31_0
      try clear hcz31_1
      try clear hcz31_10
      try clear hcz31_2
      try clear hcz31_3
      try clear hcz31_4
      try clear hcz31_5
      try clear hcz31_6
      try clear hcz31_7
      try clear hcz31_8
      try clear hcz31_9
      try clear hcz32_0
      try clear hcz32_1
      try clear hcz32_10
      try clear hcz32_2
      try clear hcz32_3
      try clear hcz32_4
      try clear hcz32_5
      try clear hcz32_6
      try clear hcz32_7
      try clear hcz32_8
      try clear hcz32_9
      try clear hcz33_0
      try clear hcz33_1
      try clear hcz33_10
      try clear hcz33_2
      try clear hcz33_3
      try clear hcz33_4
      try clear hcz33_5
      try clear hcz33_6
      try clear hcz33_7
      try clear hcz33_8
      try clear hcz33_9
      try clear hcz34_0
      try clear hcz34_1
      try clear hcz34_10
      try clear hcz34_2
      try clear hcz34_3
      try clear hcz34_4
      try clear hcz34_5
      try clear hcz34_6
      try clear hcz34_7
      try clear hcz34_8
      try clear hcz34_9
      try clear hcz35_0
      try clear hcz35_1
      try clear hcz35_10
      try clear hcz35_2
      try clear hcz35_3
      try clear hcz35_4
      try clear hcz35_5
      try clear hcz35_6
      try clear hcz35_7
      try clear hcz35_8
      try clear hcz35_9
      try clear hcz8_0
      try clear hcz8_1
      try clear hcz8_10
      try clear hcz8_2
      try clear hcz8_3
      try clear hcz8_4
      try clear hcz8_5
      try clear hcz8_6
      try clear hcz8_7
      try clear hcz8_8
      try clear hcz8_9
      try clear hcz9_0
      try clear hcz9_1
      try clear hcz9_10
      try clear hcz9_2
      try clear hcz9_3
      try clear hcz9_4
      try clear hcz9_5
      try clear hcz9_6
      try clear hcz9_7
      try clear hcz9_8
      try clear hcz9_9
      try clear hfz10_0
      try clear hfz10_1
      try clear hfz10_10
      try clear hfz10_2
      try clear hfz10_3
      try clear hfz10_4
      try clear hfz10_5
      try clear hfz10_6
      try clear hfz10_7
      try clear hfz10_8
      try clear hfz10_9
      try clear hfz15_0
      try clear hfz15_1
      try clear hfz15_10
      try clear hfz15_2
      try clear hfz15_3
      try clear hfz15_4
      try clear hfz15_5
      try clear hfz15_6
      try clear hfz15_7
      try clear hfz15_8
      try clear hfz15_9
      try clear hfz29_0
      try clear hfz29_1
      try clear hfz29_10
      try clear hfz29_2
      try clear hfz29_3
      try clear hfz29_4
      try clear hfz29_5
      try clear hfz29_6
      try clear hfz29_7
      try clear hfz29_8
      try clear hfz29_9
      try clear hfz30_0
      try clear hfz30_1
      try clear hfz30_10
      try clear hfz30_2
      try clear hfz30_3
      try clear hfz30_4
      try clear hfz30_5
      try clear hfz30_6
      try clear hfz30_7
      try clear hfz30_8
      try clear hfz30_9
      try clear hfz31_0
      try clear hfz31_1
      try clear hfz31_10
      try clear hfz31_2
      try clear hfz31_3
      try clear hfz31_4
      try clear hfz31_5
      try clear hfz31_6
      try clear hfz31_7
      try clear hfz31_8
      try clear hfz31_9
      try clear hfz32_0
      try clear hfz32_1
      try clear hfz32_10
      try clear hfz32_2
      try clear hfz32_3
      try clear hfz32_4
      try clear hfz32_5
      try clear hfz32_6
      try clear hfz32_7
      try clear hfz32_8
      try clear hfz32_9
      try clear hfz33_0
      try clear hfz33_1
      try clear hfz33_10
      try clear hfz33_2
      try clear hfz33_3
      try clear hfz33_4
      try clear hfz33_5
      try clear hfz33_6
      try clear hfz33_7
      try clear hfz33_8
      try clear hfz33_9
      try clear hfz34_0
      try clear hfz34_1
      try clear hfz34_10
      try clear hfz34_2
      try clear hfz34_3
      try clear hfz34_4
      try clear hfz34_5
      try clear hfz34_6
      try clear hfz34_7
      try clear hfz34_8
      try clear hfz34_9
      try clear hfz35_0
      try clear hfz35_1
      try clear hfz35_10
      try clear hfz35_2
      try clear hfz35_3
      try clear hfz35_4
      try clear hfz35_5
      try clear hfz35_6
      try clear hfz35_7
      try clear hfz35_8
      try clear hfz35_9
      try clear hfz8_0
      try clear hfz8_1
      try clear hfz8_10
      try clear hfz8_2
      try clear hfz8_3
      try clear hfz8_4
      try clear hfz8_5
      try clear hfz8_6
      try clear hfz8_7
      try clear hfz8_8
      try clear hfz8_9
      try clear hfz9_0
      try clear hfz9_1
      try clear hfz9_10
      try clear hfz9_2
      try clear hfz9_3
      try clear hfz9_4
      try clear hfz9_5
      try clear hfz9_6
      try clear hfz9_7
      try clear hfz9_8
      try clear hfz9_9
      try clear p2
      try clear p6
      obtain ⟨kq, x75_13, rfl, HA, HJ13, BK131, HB⟩ := hcut
      cases kq with
      | zero => exact absurd HA.out (by simp [bellwetherref03_Plain.j1])
      | succ kj13 =>
       have H := HA.out
       clear HA
       simp only [bellwetherref03_Plain.j1] at H
       by_cases c36 : x75_13 = true
       ·
        subst c36
        have H1 : (some 8) = some r := by rw [if_pos rfl] at H; exact H
        clear H
        have H := H1
        clear H1
        obtain rfl := Option.some.inj H
        go_wp2
        go_ret
        exact ⟨by first | rfl | (simp [errW_none, errW_some] <;> rfl) | (simp [*, errW_none, errW_some] <;> rfl), by repeat (first | (with_reducible first | exact HB.out | apply below_alloc | apply pw_below_drewN | apply below_drew1 | refine below_set ?_ GE131.out) | exact HB.out)⟩
       ·
        replace c36 := Bool.eq_false_iff.mpr c36
        subst c36
        have H1 : ((bellwetherref03_within.f (l0_10.length : Int) 1 32).bind fun t142 => (if t142 = true then ((bellwetherref03_owned.f kj13 a0_0 a0_1 a0_2 a0_3 a0_4 a0_5 a0_6 a0_7 a0_8 a0_9 l0_10).bind fun t143 => (if t143 = true then (some 0) else (some 11))) else (some 11))) = some r := by rw [if_neg (show ¬ (false = true) by decide)] at H; exact H
        clear H
        have H := H1
        clear H1
        replace H := Option.bind_eq_some_iff.mp H
        obtain ⟨t142, A370, H⟩ := H
        replace H : (if t142 = true then ((bellwetherref03_owned.f kj13 a0_0 a0_1 a0_2 a0_3 a0_4 a0_5 a0_6 a0_7 a0_8 a0_9 l0_10).bind fun t143 => (if t143 = true then (some 0) else (some 11))) else (some 11)) = some r := H
        have A37 := Aside0.mk A370
        clear A370
        by_cases c38 : t142 = true
        ·
         subst c38
         have H1 : ((bellwetherref03_owned.f kj13 a0_0 a0_1 a0_2 a0_3 a0_4 a0_5 a0_6 a0_7 a0_8 a0_9 l0_10).bind fun t143 => (if t143 = true then (some 0) else (some 11))) = some r := by rw [if_pos rfl] at H; exact H
         clear H
         have H := H1
         clear H1
         replace H := Option.bind_eq_some_iff.mp H
         obtain ⟨t143, A390, H⟩ := H
         replace H : (if t143 = true then (some 0) else (some 11)) = some r := H
         have A39 := Aside0.mk A390
         clear A390
         by_cases c40 : t143 = true
         ·
          subst c40
          have H1 : (some 0) = some r := by rw [if_pos rfl] at H; exact H
          clear H
          have H := H1
          clear H1
          obtain rfl := Option.some.inj H
          have hcz41_0 : wc.cell? ⟨gb131, 0, none⟩ = some (.int .i64 a0_0) := (blk_cell BK131.out 0).trans rfl
          have hcz41_1 : wc.cell? ⟨gb131, 1, none⟩ = some (.int .i64 a0_1) := (blk_cell BK131.out 1).trans rfl
          have hcz41_2 : wc.cell? ⟨gb131, 2, none⟩ = some (.int .i64 a0_2) := (blk_cell BK131.out 2).trans rfl
          have hcz41_3 : wc.cell? ⟨gb131, 3, none⟩ = some (.int .i64 a0_3) := (blk_cell BK131.out 3).trans rfl
          have hcz41_4 : wc.cell? ⟨gb131, 4, none⟩ = some (.int .i64 a0_4) := (blk_cell BK131.out 4).trans rfl
          have hcz41_5 : wc.cell? ⟨gb131, 5, none⟩ = some (.int .i64 a0_5) := (blk_cell BK131.out 5).trans rfl
          have hcz41_6 : wc.cell? ⟨gb131, 6, none⟩ = some (.int .i64 a0_6) := (blk_cell BK131.out 6).trans rfl
          have hcz41_7 : wc.cell? ⟨gb131, 7, none⟩ = some (.int .i64 a0_7) := (blk_cell BK131.out 7).trans rfl
          have hcz41_8 : wc.cell? ⟨gb131, 8, none⟩ = some (.int .i64 a0_8) := (blk_cell BK131.out 8).trans rfl
          have hcz41_9 : wc.cell? ⟨gb131, 9, none⟩ = some (.int .i64 a0_9) := (blk_cell BK131.out 9).trans rfl
          have hcz41_10 : wc.cell? ⟨gb131, 10, none⟩ = some (.slice A0_10 l0_10.length c0_10) := (blk_cell BK131.out 10).trans rfl
          have hfz41_0 := blk_frozen BK131.out 0
          have hfz41_1 := blk_frozen BK131.out 1
          have hfz41_2 := blk_frozen BK131.out 2
          have hfz41_3 := blk_frozen BK131.out 3
          have hfz41_4 := blk_frozen BK131.out 4
          have hfz41_5 := blk_frozen BK131.out 5
          have hfz41_6 := blk_frozen BK131.out 6
          have hfz41_7 := blk_frozen BK131.out 7
          have hfz41_8 := blk_frozen BK131.out 8
          have hfz41_9 := blk_frozen BK131.out 9
          have hfz41_10 := blk_frozen BK131.out 10
          go_wp2_with (first | ((with_reducible refine gate_callee (f := 46) rfl ?_); refine goesL_ (some 79) rfl rfl Try.func46 (by kernel_rfl) rfl #[.int .i64 (l0_10.length : Int), .int .i64 1, .int .i64 32] rfl (by (try simp only [List.map_toArray, List.map_cons, List.map_nil]); first | done | rfl | (simp only [List.length_drop, List.length_take]; rfl)) ?_; (with_reducible refine (bellwetherref03_within.calls (l0_10.length : Int) 1 32 true _ A37.out).mono ?_); rintro e w' ⟨rfl, ⟨nd, rfl⟩⟩; refine ⟨_, rfl, ?_⟩) | (go_at_call 47; (with_reducible refine (bellwetherref03_owned.calls kj13 a0_0 a0_1 a0_2 a0_3 a0_4 a0_5 a0_6 a0_7 a0_8 a0_9 _ _ l0_10 true _ ?side1 ?side2 A39.out).mono ?_); (case side1 => repeat (first | exact (Kd.C_below HR0_10.out (by repeat (first | (with_reducible first | exact HB.out | apply below_alloc | apply pw_below_drewN | apply below_drew1 | refine below_set ?_ GE131.out) | exact HB.out))) | (with_reducible refine Kd.C_alloc ?_ _) | (with_reducible refine Kd.C_drewN ?_ _) | (with_reducible refine Kd.C_drew ?_))); (case side2 => exact HC0_10.out); rintro e w42 ⟨rfl, hb⟩; have n0_ := Aside0.mk (blk_below (g := gb131) (o := .cells #[.int .i64 a0_0, .int .i64 a0_1, .int .i64 a0_2, .int .i64 a0_3, .int .i64 a0_4, .int .i64 a0_5, .int .i64 a0_6, .int .i64 a0_7, .int .i64 a0_8, .int .i64 a0_9, .slice A0_10 l0_10.length c0_10] 35 (0, 0)) (by (with_reducible repeat (first | refine blk_drewN ?_ _ | refine blk_drew ?_ | refine blk_alloc ?_ _)); exact BK131.out) hb); have n1_ := Aside0.mk (below_step (by repeat (first | (with_reducible first | exact HB.out | apply below_alloc | apply pw_below_drewN | apply below_drew1 | refine below_set ?_ GE131.out) | exact HB.out)) hb); clear BK131; clear HB; have BK131 := n0_; have HB := n1_; clear n0_ n1_; (try clear hb); (try clear hb2); (try clear hk); (try clear hi)))
          go_ret
          exact ⟨by first | rfl | (simp [errW_none, errW_some] <;> rfl) | (simp [*, errW_none, errW_some] <;> rfl), by repeat (first | (with_reducible first | exact HB.out | apply below_alloc | apply pw_below_drewN | apply below_drew1 | refine below_set ?_ GE131.out) | exact HB.out)⟩
         ·
          replace c40 := Bool.eq_false_iff.mpr c40
          subst c40
          have H1 : (some 11) = some r := by rw [if_neg (show ¬ (false = true) by decide)] at H; exact H
          clear H
          have H := H1
          clear H1
          obtain rfl := Option.some.inj H
          have hcz43_0 : wc.cell? ⟨gb131, 0, none⟩ = some (.int .i64 a0_0) := (blk_cell BK131.out 0).trans rfl
          have hcz43_1 : wc.cell? ⟨gb131, 1, none⟩ = some (.int .i64 a0_1) := (blk_cell BK131.out 1).trans rfl
          have hcz43_2 : wc.cell? ⟨gb131, 2, none⟩ = some (.int .i64 a0_2) := (blk_cell BK131.out 2).trans rfl
          have hcz43_3 : wc.cell? ⟨gb131, 3, none⟩ = some (.int .i64 a0_3) := (blk_cell BK131.out 3).trans rfl
          have hcz43_4 : wc.cell? ⟨gb131, 4, none⟩ = some (.int .i64 a0_4) := (blk_cell BK131.out 4).trans rfl
          have hcz43_5 : wc.cell? ⟨gb131, 5, none⟩ = some (.int .i64 a0_5) := (blk_cell BK131.out 5).trans rfl
          have hcz43_6 : wc.cell? ⟨gb131, 6, none⟩ = some (.int .i64 a0_6) := (blk_cell BK131.out 6).trans rfl
          have hcz43_7 : wc.cell? ⟨gb131, 7, none⟩ = some (.int .i64 a0_7) := (blk_cell BK131.out 7).trans rfl
          have hcz43_8 : wc.cell? ⟨gb131, 8, none⟩ = some (.int .i64 a0_8) := (blk_cell BK131.out 8).trans rfl
          have hcz43_9 : wc.cell? ⟨gb131, 9, none⟩ = some (.int .i64 a0_9) := (blk_cell BK131.out 9).trans rfl
          have hcz43_10 : wc.cell? ⟨gb131, 10, none⟩ = some (.slice A0_10 l0_10.length c0_10) := (blk_cell BK131.out 10).trans rfl
          have hfz43_0 := blk_frozen BK131.out 0
          have hfz43_1 := blk_frozen BK131.out 1
          have hfz43_2 := blk_frozen BK131.out 2
          have hfz43_3 := blk_frozen BK131.out 3
          have hfz43_4 := blk_frozen BK131.out 4
          have hfz43_5 := blk_frozen BK131.out 5
          have hfz43_6 := blk_frozen BK131.out 6
          have hfz43_7 := blk_frozen BK131.out 7
          have hfz43_8 := blk_frozen BK131.out 8
          have hfz43_9 := blk_frozen BK131.out 9
          have hfz43_10 := blk_frozen BK131.out 10
          go_wp2_with (first | ((with_reducible refine gate_callee (f := 46) rfl ?_); refine goesL_ (some 79) rfl rfl Try.func46 (by kernel_rfl) rfl #[.int .i64 (l0_10.length : Int), .int .i64 1, .int .i64 32] rfl (by (try simp only [List.map_toArray, List.map_cons, List.map_nil]); first | done | rfl | (simp only [List.length_drop, List.length_take]; rfl)) ?_; (with_reducible refine (bellwetherref03_within.calls (l0_10.length : Int) 1 32 true _ A37.out).mono ?_); rintro e w' ⟨rfl, ⟨nd, rfl⟩⟩; refine ⟨_, rfl, ?_⟩) | (go_at_call 47; (with_reducible refine (bellwetherref03_owned.calls kj13 a0_0 a0_1 a0_2 a0_3 a0_4 a0_5 a0_6 a0_7 a0_8 a0_9 _ _ l0_10 false _ ?side1 ?side2 A39.out).mono ?_); (case side1 => repeat (first | exact (Kd.C_below HR0_10.out (by repeat (first | (with_reducible first | exact HB.out | apply below_alloc | apply pw_below_drewN | apply below_drew1 | refine below_set ?_ GE131.out) | exact HB.out))) | (with_reducible refine Kd.C_alloc ?_ _) | (with_reducible refine Kd.C_drewN ?_ _) | (with_reducible refine Kd.C_drew ?_))); (case side2 => exact HC0_10.out); rintro e w44 ⟨rfl, hb⟩; have n0_ := Aside0.mk (blk_below (g := gb131) (o := .cells #[.int .i64 a0_0, .int .i64 a0_1, .int .i64 a0_2, .int .i64 a0_3, .int .i64 a0_4, .int .i64 a0_5, .int .i64 a0_6, .int .i64 a0_7, .int .i64 a0_8, .int .i64 a0_9, .slice A0_10 l0_10.length c0_10] 35 (0, 0)) (by (with_reducible repeat (first | refine blk_drewN ?_ _ | refine blk_drew ?_ | refine blk_alloc ?_ _)); exact BK131.out) hb); have n1_ := Aside0.mk (below_step (by repeat (first | (with_reducible first | exact HB.out | apply below_alloc | apply pw_below_drewN | apply below_drew1 | refine below_set ?_ GE131.out) | exact HB.out)) hb); clear BK131; clear HB; have BK131 := n0_; have HB := n1_; clear n0_ n1_; (try clear hb); (try clear hb2); (try clear hk); (try clear hi)))
          go_ret
          exact ⟨by first | rfl | (simp [errW_none, errW_some] <;> rfl) | (simp [*, errW_none, errW_some] <;> rfl), by repeat (first | (with_reducible first | exact HB.out | apply below_alloc | apply pw_below_drewN | apply below_drew1 | refine below_set ?_ GE131.out) | exact HB.out)⟩
        ·
         replace c38 := Bool.eq_false_iff.mpr c38
         subst c38
         have H1 : (some 11) = some r := by rw [if_neg (show ¬ (false = true) by decide)] at H; exact H
         clear H
         have H := H1
         clear H1
         obtain rfl := Option.some.inj H
         have hcz45_0 : wc.cell? ⟨gb131, 0, none⟩ = some (.int .i64 a0_0) := (blk_cell BK131.out 0).trans rfl
         have hcz45_1 : wc.cell? ⟨gb131, 1, none⟩ = some (.int .i64 a0_1) := (blk_cell BK131.out 1).trans rfl
         have hcz45_2 : wc.cell? ⟨gb131, 2, none⟩ = some (.int .i64 a0_2) := (blk_cell BK131.out 2).trans rfl
         have hcz45_3 : wc.cell? ⟨gb131, 3, none⟩ = some (.int .i64 a0_3) := (blk_cell BK131.out 3).trans rfl
         have hcz45_4 : wc.cell? ⟨gb131, 4, none⟩ = some (.int .i64 a0_4) := (blk_cell BK131.out 4).trans rfl
         have hcz45_5 : wc.cell? ⟨gb131, 5, none⟩ = some (.int .i64 a0_5) := (blk_cell BK131.out 5).trans rfl
         have hcz45_6 : wc.cell? ⟨gb131, 6, none⟩ = some (.int .i64 a0_6) := (blk_cell BK131.out 6).trans rfl
         have hcz45_7 : wc.cell? ⟨gb131, 7, none⟩ = some (.int .i64 a0_7) := (blk_cell BK131.out 7).trans rfl
         have hcz45_8 : wc.cell? ⟨gb131, 8, none⟩ = some (.int .i64 a0_8) := (blk_cell BK131.out 8).trans rfl
         have hcz45_9 : wc.cell? ⟨gb131, 9, none⟩ = some (.int .i64 a0_9) := (blk_cell BK131.out 9).trans rfl
         have hcz45_10 : wc.cell? ⟨gb131, 10, none⟩ = some (.slice A0_10 l0_10.length c0_10) := (blk_cell BK131.out 10).trans rfl
         have hfz45_0 := blk_frozen BK131.out 0
         have hfz45_1 := blk_frozen BK131.out 1
         have hfz45_2 := blk_frozen BK131.out 2
         have hfz45_3 := blk_frozen BK131.out 3
         have hfz45_4 := blk_frozen BK131.out 4
         have hfz45_5 := blk_frozen BK131.out 5
         have hfz45_6 := blk_frozen BK131.out 6
         have hfz45_7 := blk_frozen BK131.out 7
         have hfz45_8 := blk_frozen BK131.out 8
         have hfz45_9 := blk_frozen BK131.out 9
         have hfz45_10 := blk_frozen BK131.out 10
         go_wp2_with (first | ((with_reducible refine gate_callee (f := 46) rfl ?_); refine goesL_ (some 79) rfl rfl Try.func46 (by kernel_rfl) rfl #[.int .i64 (l0_10.length : Int), .int .i64 1, .int .i64 32] rfl (by (try simp only [List.map_toArray, List.map_cons, List.map_nil]); first | done | rfl | (simp only [List.length_drop, List.length_take]; rfl)) ?_; (with_reducible refine (bellwetherref03_within.calls (l0_10.length : Int) 1 32 false _ A37.out).mono ?_); rintro e w' ⟨rfl, ⟨nd, rfl⟩⟩; refine ⟨_, rfl, ?_⟩))
         go_ret
         exact ⟨by first | rfl | (simp [errW_none, errW_some] <;> rfl) | (simp [*, errW_none, errW_some] <;> rfl), by repeat (first | (with_reducible first | exact HB.out | apply below_alloc | apply pw_below_drewN | apply below_drew1 | refine below_set ?_ GE131.out) | exact HB.out)⟩
    ·
     replace c13 := Bool.eq_false_iff.mpr c13
     subst c13
     have H1 : (some 10) = some r := by rw [if_neg (show ¬ (false = true) by decide)] at H; exact H
     clear H
     have H := H1
     clear H1
     obtain rfl := Option.some.inj H
     have hcz46_0 : wc.cell? ⟨gb131, 0, none⟩ = some (.int .i64 a0_0) := (blk_cell BK131.out 0).trans rfl
     have hcz46_1 : wc.cell? ⟨gb131, 1, none⟩ = some (.int .i64 a0_1) := (blk_cell BK131.out 1).trans rfl
     have hcz46_2 : wc.cell? ⟨gb131, 2, none⟩ = some (.int .i64 a0_2) := (blk_cell BK131.out 2).trans rfl
     have hcz46_3 : wc.cell? ⟨gb131, 3, none⟩ = some (.int .i64 a0_3) := (blk_cell BK131.out 3).trans rfl
     have hcz46_4 : wc.cell? ⟨gb131, 4, none⟩ = some (.int .i64 a0_4) := (blk_cell BK131.out 4).trans rfl
     have hcz46_5 : wc.cell? ⟨gb131, 5, none⟩ = some (.int .i64 a0_5) := (blk_cell BK131.out 5).trans rfl
     have hcz46_6 : wc.cell? ⟨gb131, 6, none⟩ = some (.int .i64 a0_6) := (blk_cell BK131.out 6).trans rfl
     have hcz46_7 : wc.cell? ⟨gb131, 7, none⟩ = some (.int .i64 a0_7) := (blk_cell BK131.out 7).trans rfl
     have hcz46_8 : wc.cell? ⟨gb131, 8, none⟩ = some (.int .i64 a0_8) := (blk_cell BK131.out 8).trans rfl
     have hcz46_9 : wc.cell? ⟨gb131, 9, none⟩ = some (.int .i64 a0_9) := (blk_cell BK131.out 9).trans rfl
     have hcz46_10 : wc.cell? ⟨gb131, 10, none⟩ = some (.slice A0_10 l0_10.length c0_10) := (blk_cell BK131.out 10).trans rfl
     have hfz46_0 := blk_frozen BK131.out 0
     have hfz46_1 := blk_frozen BK131.out 1
     have hfz46_2 := blk_frozen BK131.out 2
     have hfz46_3 := blk_frozen BK131.out 3
     have hfz46_4 := blk_frozen BK131.out 4
     have hfz46_5 := blk_frozen BK131.out 5
     have hfz46_6 := blk_frozen BK131.out 6
     have hfz46_7 := blk_frozen BK131.out 7
     have hfz46_8 := blk_frozen BK131.out 8
     have hfz46_9 := blk_frozen BK131.out 9
     have hfz46_10 := blk_frozen BK131.out 10
     go_wp2_with (first | ((with_reducible refine gate_callee (f := 46) rfl ?_); refine goesL_ (some 23) rfl rfl Try.func46 (by kernel_rfl) rfl #[.int .i64 a0_2, .int .i64 1, .int .i64 4] rfl (by (try simp only [List.map_toArray, List.map_cons, List.map_nil]); first | done | rfl | (simp only [List.length_drop, List.length_take]; rfl)) ?_; (with_reducible refine (bellwetherref03_within.calls a0_2 1 4 false _ A12.out).mono ?_); rintro e w' ⟨rfl, ⟨nd, rfl⟩⟩; refine ⟨_, rfl, ?_⟩))
     go_ret
     exact ⟨by first | rfl | (simp [errW_none, errW_some] <;> rfl) | (simp [*, errW_none, errW_some] <;> rfl), by repeat (first | (with_reducible first | exact HB.out | apply below_alloc | apply pw_below_drewN | apply below_drew1 | refine below_set ?_ GE131.out) | exact HB.out)⟩

end Go.Proofs.Ytofabmdndoaegaa.X
