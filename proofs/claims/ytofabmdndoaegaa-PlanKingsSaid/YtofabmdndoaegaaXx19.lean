-- Laid by xprint.py, a program of this session, by the kit's print over contracts of our own. Lean checks it.
import Derived.Test.YtofabmdndoaegaaXx0
import Derived.Test.YtofabmdndoaegaaXx10
import Derived.Test.YtofabmdndoaegaaXx11
import Derived.Test.YtofabmdndoaegaaXx16
namespace Go.Proofs.Ytofabmdndoaegaa.X
open Go.RowKit Go.Proofs.YtofabmdndoaegaaW.PrintWords Go.Proofs.YtofabmdndoaegaaW.PrintLast Go.Proofs.YtofabmdndoaegaaW.PrintMore
attribute [local go_sem] max2_int min2_int max_two min_two max_three min_three max_four min_four   -- for this text's walks alone
set_option linter.unusedVariables false
set_option linter.unusedSimpArgs false

/-! ### bellwetherlaw15_PlanKings: function 12 -/
mutual
def bellwetherlaw15_PlanKings.l0 : Nat → Int → Int → Int → Int → Int → Int → Int → Int → Int → Int → Int → List Int → Option (Bool)
 | 0, _, _, _, _, _, _, _, _, _, _, _, _ => none
 | k + 1, x3, x319000, x319001, x319002, x319003, x319004, x319005, x319006, x319007, x319008, x319009, x319010 => (bellwetherref03_Rounds.f k x319000 x319001 x319002 x319003 x319004 x319005 x319006 x319007 x319008 x319009 x319010).bind fun t322 => (if x3 < t322 then (bellwetherlaw15_PlanKings.l1 k x3 0 0 x319000 x319001 x319002 x319003 x319004 x319005 x319006 x319007 x319008 x319009 x319010) else ((bellwetherlaw15_known.f k).bind fun t323 => (some t323)))
def bellwetherlaw15_PlanKings.l1 : Nat → Int → Int → Int → Int → Int → Int → Int → Int → Int → Int → Int → Int → Int → List Int → Option (Bool)
 | 0, _, _, _, _, _, _, _, _, _, _, _, _, _, _ => none
 | k + 1, x3, x4, x5, x319000, x319001, x319002, x319003, x319004, x319005, x319006, x319007, x319008, x319009, x319010 => (bellwetherref03_Length.f k x319000 x319001 x319002 x319003 x319004 x319005 x319006 x319007 x319008 x319009 x319010).bind fun t324 => (if x5 ≤ t324 then ((plan_Hears.f k x319000 x319001 x319002 x319003 x319004 x319005 x319006 x319007 x319008 x319009 x319010 x5).bind fun t325 => (if t325 = x3 then (bellwetherlaw15_PlanKings.l1 k x3 (wrap64 (x4 + 1)) (wrap64 (x5 + 1)) x319000 x319001 x319002 x319003 x319004 x319005 x319006 x319007 x319008 x319009 x319010) else (bellwetherlaw15_PlanKings.l1 k x3 x4 (wrap64 (x5 + 1)) x319000 x319001 x319002 x319003 x319004 x319005 x319006 x319007 x319008 x319009 x319010))) else ((plan_King.f k x319000 x319001 x319002 x319003 x319004 x319005 x319006 x319007 x319008 x319009 x319010 x3).bind fun t326 => (if x4 = 1 then (if t326 < 0 then (bellwetherlaw15_PlanKings.j2 k x3 t326 true x319000 x319001 x319002 x319003 x319004 x319005 x319006 x319007 x319008 x319009 x319010) else (bellwetherlaw15_PlanKings.j2 k x3 t326 (decide (t326 ≥ x319000)) x319000 x319001 x319002 x319003 x319004 x319005 x319006 x319007 x319008 x319009 x319010)) else (bellwetherlaw15_PlanKings.j2 k x3 t326 true x319000 x319001 x319002 x319003 x319004 x319005 x319006 x319007 x319008 x319009 x319010))))
def bellwetherlaw15_PlanKings.j2 : Nat → Int → Int → Bool → Int → Int → Int → Int → Int → Int → Int → Int → Int → Int → List Int → Option (Bool)
 | 0, _, _, _, _, _, _, _, _, _, _, _, _, _, _ => none
 | k + 1, x3, x6, x50, x319000, x319001, x319002, x319003, x319004, x319005, x319006, x319007, x319008, x319009, x319010 => if x50 = true then (some false) else (bellwetherlaw15_PlanKings.l2 k x3 x6 0 x319000 x319001 x319002 x319003 x319004 x319005 x319006 x319007 x319008 x319009 x319010)
def bellwetherlaw15_PlanKings.l2 : Nat → Int → Int → Int → Int → Int → Int → Int → Int → Int → Int → Int → Int → Int → List Int → Option (Bool)
 | 0, _, _, _, _, _, _, _, _, _, _, _, _, _, _ => none
 | k + 1, x3, x6, x7, x319000, x319001, x319002, x319003, x319004, x319005, x319006, x319007, x319008, x319009, x319010 => if x7 < x3 then ((plan_King.f k x319000 x319001 x319002 x319003 x319004 x319005 x319006 x319007 x319008 x319009 x319010 x7).bind fun t327 => (if ((t327 == x6) != ((wrap64 (Int.tdiv x7 3)) == (wrap64 (Int.tdiv x3 3)))) = true then (some false) else (bellwetherlaw15_PlanKings.l2 k x3 x6 (wrap64 (x7 + 1)) x319000 x319001 x319002 x319003 x319004 x319005 x319006 x319007 x319008 x319009 x319010))) else (bellwetherlaw15_PlanKings.l0 k (wrap64 (x3 + 1)) x319000 x319001 x319002 x319003 x319004 x319005 x319006 x319007 x319008 x319009 x319010)
end
def bellwetherlaw15_PlanKings.f (k : Nat) (a0_0 : Int) (a0_1 : Int) (a0_2 : Int) (a0_3 : Int) (a0_4 : Int) (a0_5 : Int) (a0_6 : Int) (a0_7 : Int) (a0_8 : Int) (a0_9 : Int) (l0_10 : List Int) : Option (Bool) := (bellwetherref03_Plain.f k a0_0 a0_1 a0_2 a0_3 a0_4 a0_5 a0_6 a0_7 a0_8 a0_9 l0_10).bind fun t319 => (if t319 = 0 then (bellwetherlaw15_PlanKings.l0 k 0 a0_0 a0_1 a0_2 a0_3 a0_4 a0_5 a0_6 a0_7 a0_8 a0_9 l0_10) else ((plan_King.f k a0_0 a0_1 a0_2 a0_3 a0_4 a0_5 a0_6 a0_7 a0_8 a0_9 l0_10 0).bind fun t320 => (if t320 = (-1) then ((bellwetherlaw15_known.f k).bind fun t321 => (some t321)) else (some false))))
theorem bellwetherlaw15_PlanKings.mono_l : ∀ k, (∀ y0 y1 y2 y3 y4 y5 y6 y7 y8 y9 y10 y11, LeO (bellwetherlaw15_PlanKings.l0 k y0 y1 y2 y3 y4 y5 y6 y7 y8 y9 y10 y11) (bellwetherlaw15_PlanKings.l0 (k + 1) y0 y1 y2 y3 y4 y5 y6 y7 y8 y9 y10 y11)) ∧ (∀ y0 y1 y2 y3 y4 y5 y6 y7 y8 y9 y10 y11 y12 y13, LeO (bellwetherlaw15_PlanKings.l1 k y0 y1 y2 y3 y4 y5 y6 y7 y8 y9 y10 y11 y12 y13) (bellwetherlaw15_PlanKings.l1 (k + 1) y0 y1 y2 y3 y4 y5 y6 y7 y8 y9 y10 y11 y12 y13)) ∧ (∀ y0 y1 y2 y3 y4 y5 y6 y7 y8 y9 y10 y11 y12 y13, LeO (bellwetherlaw15_PlanKings.j2 k y0 y1 y2 y3 y4 y5 y6 y7 y8 y9 y10 y11 y12 y13) (bellwetherlaw15_PlanKings.j2 (k + 1) y0 y1 y2 y3 y4 y5 y6 y7 y8 y9 y10 y11 y12 y13)) ∧ (∀ y0 y1 y2 y3 y4 y5 y6 y7 y8 y9 y10 y11 y12 y13, LeO (bellwetherlaw15_PlanKings.l2 k y0 y1 y2 y3 y4 y5 y6 y7 y8 y9 y10 y11 y12 y13) (bellwetherlaw15_PlanKings.l2 (k + 1) y0 y1 y2 y3 y4 y5 y6 y7 y8 y9 y10 y11 y12 y13))
 | 0 => ⟨fun _ _ _ _ _ _ _ _ _ _ _ _ r h => by simp [bellwetherlaw15_PlanKings.l0] at h, fun _ _ _ _ _ _ _ _ _ _ _ _ _ _ r h => by simp [bellwetherlaw15_PlanKings.l1] at h, fun _ _ _ _ _ _ _ _ _ _ _ _ _ _ r h => by simp [bellwetherlaw15_PlanKings.j2] at h, fun _ _ _ _ _ _ _ _ _ _ _ _ _ _ r h => by simp [bellwetherlaw15_PlanKings.l2] at h⟩
 | k + 1 => by
  obtain ⟨ih0, ih1, ih2, ih3⟩ := bellwetherlaw15_PlanKings.mono_l k
  refine ⟨?_, ?_, ?_, ?_⟩
  ·
   intro y0 y1 y2 y3 y4 y5 y6 y7 y8 y9 y10 y11
   unfold bellwetherlaw15_PlanKings.l0
   repeat' first
   | (with_reducible exact ih0 _ _ _ _ _ _ _ _ _ _ _ _)
   | (with_reducible exact ih1 _ _ _ _ _ _ _ _ _ _ _ _ _ _)
   | (with_reducible exact ih2 _ _ _ _ _ _ _ _ _ _ _ _ _ _)
   | (with_reducible exact ih3 _ _ _ _ _ _ _ _ _ _ _ _ _ _)
   | (with_reducible exact bellwetherlaw15_known.mono _)
   | (with_reducible exact bellwetherref03_Length.mono _ _ _ _ _ _ _ _ _ _ _ _)
   | (with_reducible exact bellwetherref03_Plain.mono _ _ _ _ _ _ _ _ _ _ _ _)
   | (with_reducible exact bellwetherref03_Rounds.mono _ _ _ _ _ _ _ _ _ _ _ _)
   | (with_reducible exact plan_Hears.mono _ _ _ _ _ _ _ _ _ _ _ _ _)
   | (with_reducible exact plan_King.mono _ _ _ _ _ _ _ _ _ _ _ _ _)
   | (with_reducible exact LeO.refl _)
   | (with_reducible exact LeO.none _)
   | (with_reducible refine LeO.ite ?_ ?_)
   | (with_reducible refine LeO.bind ?_ (fun _ => ?_))
   | exact ih0 _ _ _ _ _ _ _ _ _ _ _ _
   | exact ih1 _ _ _ _ _ _ _ _ _ _ _ _ _ _
   | exact ih2 _ _ _ _ _ _ _ _ _ _ _ _ _ _
   | exact ih3 _ _ _ _ _ _ _ _ _ _ _ _ _ _
   | exact bellwetherlaw15_known.mono _
   | exact bellwetherref03_Length.mono _ _ _ _ _ _ _ _ _ _ _ _
   | exact bellwetherref03_Plain.mono _ _ _ _ _ _ _ _ _ _ _ _
   | exact bellwetherref03_Rounds.mono _ _ _ _ _ _ _ _ _ _ _ _
   | exact plan_Hears.mono _ _ _ _ _ _ _ _ _ _ _ _ _
   | exact plan_King.mono _ _ _ _ _ _ _ _ _ _ _ _ _
   | exact LeO.none _
   | refine LeO.ite ?_ ?_
   | refine LeO.bind ?_ (fun _ => ?_)
  ·
   intro y0 y1 y2 y3 y4 y5 y6 y7 y8 y9 y10 y11 y12 y13
   unfold bellwetherlaw15_PlanKings.l1
   repeat' first
   | (with_reducible exact ih0 _ _ _ _ _ _ _ _ _ _ _ _)
   | (with_reducible exact ih1 _ _ _ _ _ _ _ _ _ _ _ _ _ _)
   | (with_reducible exact ih2 _ _ _ _ _ _ _ _ _ _ _ _ _ _)
   | (with_reducible exact ih3 _ _ _ _ _ _ _ _ _ _ _ _ _ _)
   | (with_reducible exact bellwetherlaw15_known.mono _)
   | (with_reducible exact bellwetherref03_Length.mono _ _ _ _ _ _ _ _ _ _ _ _)
   | (with_reducible exact bellwetherref03_Plain.mono _ _ _ _ _ _ _ _ _ _ _ _)
   | (with_reducible exact bellwetherref03_Rounds.mono _ _ _ _ _ _ _ _ _ _ _ _)
   | (with_reducible exact plan_Hears.mono _ _ _ _ _ _ _ _ _ _ _ _ _)
   | (with_reducible exact plan_King.mono _ _ _ _ _ _ _ _ _ _ _ _ _)
   | (with_reducible exact LeO.refl _)
   | (with_reducible exact LeO.none _)
   | (with_reducible refine LeO.ite ?_ ?_)
   | (with_reducible refine LeO.bind ?_ (fun _ => ?_))
   | exact ih0 _ _ _ _ _ _ _ _ _ _ _ _
   | exact ih1 _ _ _ _ _ _ _ _ _ _ _ _ _ _
   | exact ih2 _ _ _ _ _ _ _ _ _ _ _ _ _ _
   | exact ih3 _ _ _ _ _ _ _ _ _ _ _ _ _ _
   | exact bellwetherlaw15_known.mono _
   | exact bellwetherref03_Length.mono _ _ _ _ _ _ _ _ _ _ _ _
   | exact bellwetherref03_Plain.mono _ _ _ _ _ _ _ _ _ _ _ _
   | exact bellwetherref03_Rounds.mono _ _ _ _ _ _ _ _ _ _ _ _
   | exact plan_Hears.mono _ _ _ _ _ _ _ _ _ _ _ _ _
   | exact plan_King.mono _ _ _ _ _ _ _ _ _ _ _ _ _
   | exact LeO.none _
   | refine LeO.ite ?_ ?_
   | refine LeO.bind ?_ (fun _ => ?_)
  ·
   intro y0 y1 y2 y3 y4 y5 y6 y7 y8 y9 y10 y11 y12 y13
   unfold bellwetherlaw15_PlanKings.j2
   repeat' first
   | (with_reducible exact ih0 _ _ _ _ _ _ _ _ _ _ _ _)
   | (with_reducible exact ih1 _ _ _ _ _ _ _ _ _ _ _ _ _ _)
   | (with_reducible exact ih2 _ _ _ _ _ _ _ _ _ _ _ _ _ _)
   | (with_reducible exact ih3 _ _ _ _ _ _ _ _ _ _ _ _ _ _)
   | (with_reducible exact bellwetherlaw15_known.mono _)
   | (with_reducible exact bellwetherref03_Length.mono _ _ _ _ _ _ _ _ _ _ _ _)
   | (with_reducible exact bellwetherref03_Plain.mono _ _ _ _ _ _ _ _ _ _ _ _)
   | (with_reducible exact bellwetherref03_Rounds.mono _ _ _ _ _ _ _ _ _ _ _ _)
   | (with_reducible exact plan_Hears.mono _ _ _ _ _ _ _ _ _ _ _ _ _)
   | (with_reducible exact plan_King.mono _ _ _ _ _ _ _ _ _ _ _ _ _)
   | (with_reducible exact LeO.refl _)
   | (with_reducible exact LeO.none _)
   | (with_reducible refine LeO.ite ?_ ?_)
   | (with_reducible refine LeO.bind ?_ (fun _ => ?_))
   | exact ih0 _ _ _ _ _ _ _ _ _ _ _ _
   | exact ih1 _ _ _ _ _ _ _ _ _ _ _ _ _ _
   | exact ih2 _ _ _ _ _ _ _ _ _ _ _ _ _ _
   | exact ih3 _ _ _ _ _ _ _ _ _ _ _ _ _ _
   | exact bellwetherlaw15_known.mono _
   | exact bellwetherref03_Length.mono _ _ _ _ _ _ _ _ _ _ _ _
   | exact bellwetherref03_Plain.mono _ _ _ _ _ _ _ _ _ _ _ _
   | exact bellwetherref03_Rounds.mono _ _ _ _ _ _ _ _ _ _ _ _
   | exact plan_Hears.mono _ _ _ _ _ _ _ _ _ _ _ _ _
   | exact plan_King.mono _ _ _ _ _ _ _ _ _ _ _ _ _
   | exact LeO.none _
   | refine LeO.ite ?_ ?_
   | refine LeO.bind ?_ (fun _ => ?_)
  ·
   intro y0 y1 y2 y3 y4 y5 y6 y7 y8 y9 y10 y11 y12 y13
   unfold bellwetherlaw15_PlanKings.l2
   repeat' first
   | (with_reducible exact ih0 _ _ _ _ _ _ _ _ _ _ _ _)
   | (with_reducible exact ih1 _ _ _ _ _ _ _ _ _ _ _ _ _ _)
   | (with_reducible exact ih2 _ _ _ _ _ _ _ _ _ _ _ _ _ _)
   | (with_reducible exact ih3 _ _ _ _ _ _ _ _ _ _ _ _ _ _)
   | (with_reducible exact bellwetherlaw15_known.mono _)
   | (with_reducible exact bellwetherref03_Length.mono _ _ _ _ _ _ _ _ _ _ _ _)
   | (with_reducible exact bellwetherref03_Plain.mono _ _ _ _ _ _ _ _ _ _ _ _)
   | (with_reducible exact bellwetherref03_Rounds.mono _ _ _ _ _ _ _ _ _ _ _ _)
   | (with_reducible exact plan_Hears.mono _ _ _ _ _ _ _ _ _ _ _ _ _)
   | (with_reducible exact plan_King.mono _ _ _ _ _ _ _ _ _ _ _ _ _)
   | (with_reducible exact LeO.refl _)
   | (with_reducible exact LeO.none _)
   | (with_reducible refine LeO.ite ?_ ?_)
   | (with_reducible refine LeO.bind ?_ (fun _ => ?_))
   | exact ih0 _ _ _ _ _ _ _ _ _ _ _ _
   | exact ih1 _ _ _ _ _ _ _ _ _ _ _ _ _ _
   | exact ih2 _ _ _ _ _ _ _ _ _ _ _ _ _ _
   | exact ih3 _ _ _ _ _ _ _ _ _ _ _ _ _ _
   | exact bellwetherlaw15_known.mono _
   | exact bellwetherref03_Length.mono _ _ _ _ _ _ _ _ _ _ _ _
   | exact bellwetherref03_Plain.mono _ _ _ _ _ _ _ _ _ _ _ _
   | exact bellwetherref03_Rounds.mono _ _ _ _ _ _ _ _ _ _ _ _
   | exact plan_Hears.mono _ _ _ _ _ _ _ _ _ _ _ _ _
   | exact plan_King.mono _ _ _ _ _ _ _ _ _ _ _ _ _
   | exact LeO.none _
   | refine LeO.ite ?_ ?_
   | refine LeO.bind ?_ (fun _ => ?_)
theorem bellwetherlaw15_PlanKings.mono : ∀ a0 a1 a2 a3 a4 a5 a6 a7 a8 a9 a10 k, LeO (bellwetherlaw15_PlanKings.f k a0 a1 a2 a3 a4 a5 a6 a7 a8 a9 a10) (bellwetherlaw15_PlanKings.f (k + 1) a0 a1 a2 a3 a4 a5 a6 a7 a8 a9 a10) := by
 intro a0 a1 a2 a3 a4 a5 a6 a7 a8 a9 a10 k
 obtain ⟨ih0, ih1, ih2, ih3⟩ := bellwetherlaw15_PlanKings.mono_l k
 unfold bellwetherlaw15_PlanKings.f
 repeat' first
   | (with_reducible exact ih0 _ _ _ _ _ _ _ _ _ _ _ _)
   | (with_reducible exact ih1 _ _ _ _ _ _ _ _ _ _ _ _ _ _)
   | (with_reducible exact ih2 _ _ _ _ _ _ _ _ _ _ _ _ _ _)
   | (with_reducible exact ih3 _ _ _ _ _ _ _ _ _ _ _ _ _ _)
   | (with_reducible exact bellwetherlaw15_known.mono _)
   | (with_reducible exact bellwetherref03_Length.mono _ _ _ _ _ _ _ _ _ _ _ _)
   | (with_reducible exact bellwetherref03_Plain.mono _ _ _ _ _ _ _ _ _ _ _ _)
   | (with_reducible exact bellwetherref03_Rounds.mono _ _ _ _ _ _ _ _ _ _ _ _)
   | (with_reducible exact plan_Hears.mono _ _ _ _ _ _ _ _ _ _ _ _ _)
   | (with_reducible exact plan_King.mono _ _ _ _ _ _ _ _ _ _ _ _ _)
   | (with_reducible exact LeO.refl _)
   | (with_reducible exact LeO.none _)
   | (with_reducible refine LeO.ite ?_ ?_)
   | (with_reducible refine LeO.bind ?_ (fun _ => ?_))
   | exact ih0 _ _ _ _ _ _ _ _ _ _ _ _
   | exact ih1 _ _ _ _ _ _ _ _ _ _ _ _ _ _
   | exact ih2 _ _ _ _ _ _ _ _ _ _ _ _ _ _
   | exact ih3 _ _ _ _ _ _ _ _ _ _ _ _ _ _
   | exact bellwetherlaw15_known.mono _
   | exact bellwetherref03_Length.mono _ _ _ _ _ _ _ _ _ _ _ _
   | exact bellwetherref03_Plain.mono _ _ _ _ _ _ _ _ _ _ _ _
   | exact bellwetherref03_Rounds.mono _ _ _ _ _ _ _ _ _ _ _ _
   | exact plan_Hears.mono _ _ _ _ _ _ _ _ _ _ _ _ _
   | exact plan_King.mono _ _ _ _ _ _ _ _ _ _ _ _ _
   | exact LeO.none _
   | refine LeO.ite ?_ ?_
   | refine LeO.bind ?_ (fun _ => ?_)
set_option maxHeartbeats 8000000 in
set_option maxRecDepth 100000 in
theorem bellwetherlaw15_PlanKings.calls (k : Nat) (a0_0 : Int) (a0_1 : Int) (a0_2 : Int) (a0_3 : Int) (a0_4 : Int) (a0_5 : Int) (a0_6 : Int) (a0_7 : Int) (a0_8 : Int) (a0_9 : Int) (A0_10 : Option Addr) (c0_10 : Nat) (l0_10 : List Int) (r : Bool) (w : World) (hr0_10 : Kd.C (Kd.int .i64) w A0_10 l0_10.length l0_10) (hc0_10 : l0_10.length ≤ c0_10) (h : bellwetherlaw15_PlanKings.f k a0_0 a0_1 a0_2 a0_3 a0_4 a0_5 a0_6 a0_7 a0_8 a0_9 l0_10 = some r) (hT : Aside0 (r = true) := by first | exact ⟨rfl⟩ | assumption) :
  Calls Try.prog 12 #[.agg #[.int .i64 a0_0, .int .i64 a0_1, .int .i64 a0_2, .int .i64 a0_3, .int .i64 a0_4, .int .i64 a0_5, .int .i64 a0_6, .int .i64 a0_7, .int .i64 a0_8, .int .i64 a0_9, .slice A0_10 l0_10.length c0_10]] w fun e w' => e = .returned (.bool r) ∧ Below w.heap.size w w' := by
 have hu35 := Try.underlying35
 have HR0_10 := Aside0.mk hr0_10
 have HC0_10 := Aside0.mk hc0_10
 clear hr0_10 hc0_10
 have HB := Aside0.mk (Below.refl w.heap.size w)
 have H : ((bellwetherref03_Plain.f k a0_0 a0_1 a0_2 a0_3 a0_4 a0_5 a0_6 a0_7 a0_8 a0_9 l0_10).bind fun t319 => (if t319 = 0 then (bellwetherlaw15_PlanKings.l0 k 0 a0_0 a0_1 a0_2 a0_3 a0_4 a0_5 a0_6 a0_7 a0_8 a0_9 l0_10) else ((plan_King.f k a0_0 a0_1 a0_2 a0_3 a0_4 a0_5 a0_6 a0_7 a0_8 a0_9 l0_10 0).bind fun t320 => (if t320 = (-1) then ((bellwetherlaw15_known.f k).bind fun t321 => (some t321)) else (some false))))) = some r := h
 clear h
 replace H := Option.bind_eq_some_iff.mp H
 obtain ⟨t319, A20, H⟩ := H
 replace H : (if t319 = 0 then (bellwetherlaw15_PlanKings.l0 k 0 a0_0 a0_1 a0_2 a0_3 a0_4 a0_5 a0_6 a0_7 a0_8 a0_9 l0_10) else ((plan_King.f k a0_0 a0_1 a0_2 a0_3 a0_4 a0_5 a0_6 a0_7 a0_8 a0_9 l0_10 0).bind fun t320 => (if t320 = (-1) then ((bellwetherlaw15_known.f k).bind fun t321 => (some t321)) else (some false)))) = some r := H
 have A2 := Aside0.mk A20
 clear A20
 by_cases c3 : t319 = 0
 ·
  rw [if_pos c3] at H
  have c3b0 : (t319 == 0) = true := beq_iff_eq.mpr c3
  have c3b1 : (t319 != 0) = false := bne_eq_false_iff_eq.mpr c3
  clear c3
  have H' := Aside0.mk H
  clear H
  go_enter Try.func12, Try.ntmps12
  go_wp2_with (first | ((with_reducible refine gate_dst (N := 1) rfl ?_); refine box_event ?hg (N := 1) ?hd (cs := #[.int .i64 a0_0, .int .i64 a0_1, .int .i64 a0_2, .int .i64 a0_3, .int .i64 a0_4, .int .i64 a0_5, .int .i64 a0_6, .int .i64 a0_7, .int .i64 a0_8, .int .i64 a0_9, .slice A0_10 l0_10.length c0_10]) (t := 35) ?hr ?_; (case hd => rfl); (case hg => rfl); (case hr => first | (go_simp; done) | (go_simp; rfl)); intro gb318 hg w4 hbox hb; have n0_ := Aside0.mk (below_step (by repeat (first | (with_reducible first | exact HB.out | apply below_alloc | apply pw_below_drewN | apply below_drew1) | exact HB.out)) hb); have n1_ := Aside0.mk (hbox); have n2_ := Aside0.mk ((by rw [hg]; exact (below_size (by repeat (first | (with_reducible first | exact HB.out | apply below_alloc | apply pw_below_drewN | apply below_drew1) | exact HB.out))) : w.heap.size ≤ gb318)); have n3_ := Aside0.mk ((by rw [hg]; exact (below_size (by repeat (first | (with_reducible first | exact HB.out | apply below_alloc | apply pw_below_drewN | apply below_drew1) | exact HB.out))) : w.heap.size ≤ gb318)); clear HB; have HB := n0_; have BK318 := n1_; have GW318 := n2_; have GE318 := n3_; clear n0_ n1_ n2_ n3_; clear hb hbox hg; have hcz5_0 : w4.cell? ⟨gb318, 0, none⟩ = some (.int .i64 a0_0) := (blk_cell BK318.out 0).trans rfl; have hcz5_1 : w4.cell? ⟨gb318, 1, none⟩ = some (.int .i64 a0_1) := (blk_cell BK318.out 1).trans rfl; have hcz5_2 : w4.cell? ⟨gb318, 2, none⟩ = some (.int .i64 a0_2) := (blk_cell BK318.out 2).trans rfl; have hcz5_3 : w4.cell? ⟨gb318, 3, none⟩ = some (.int .i64 a0_3) := (blk_cell BK318.out 3).trans rfl; have hcz5_4 : w4.cell? ⟨gb318, 4, none⟩ = some (.int .i64 a0_4) := (blk_cell BK318.out 4).trans rfl; have hcz5_5 : w4.cell? ⟨gb318, 5, none⟩ = some (.int .i64 a0_5) := (blk_cell BK318.out 5).trans rfl; have hcz5_6 : w4.cell? ⟨gb318, 6, none⟩ = some (.int .i64 a0_6) := (blk_cell BK318.out 6).trans rfl; have hcz5_7 : w4.cell? ⟨gb318, 7, none⟩ = some (.int .i64 a0_7) := (blk_cell BK318.out 7).trans rfl; have hcz5_8 : w4.cell? ⟨gb318, 8, none⟩ = some (.int .i64 a0_8) := (blk_cell BK318.out 8).trans rfl; have hcz5_9 : w4.cell? ⟨gb318, 9, none⟩ = some (.int .i64 a0_9) := (blk_cell BK318.out 9).trans rfl; have hcz5_10 : w4.cell? ⟨gb318, 10, none⟩ = some (.slice A0_10 l0_10.length c0_10) := (blk_cell BK318.out 10).trans rfl; have hfz5_0 := blk_frozen BK318.out 0; have hfz5_1 := blk_frozen BK318.out 1; have hfz5_2 := blk_frozen BK318.out 2; have hfz5_3 := blk_frozen BK318.out 3; have hfz5_4 := blk_frozen BK318.out 4; have hfz5_5 := blk_frozen BK318.out 5; have hfz5_6 := blk_frozen BK318.out 6; have hfz5_7 := blk_frozen BK318.out 7; have hfz5_8 := blk_frozen BK318.out 8; have hfz5_9 := blk_frozen BK318.out 9; have hfz5_10 := blk_frozen BK318.out 10) | ((with_reducible refine gate_callee (f := 22) rfl ?_); refine goesL_ (some 9) rfl rfl Try.func22 (by kernel_rfl) rfl #[.agg #[.int .i64 a0_0, .int .i64 a0_1, .int .i64 a0_2, .int .i64 a0_3, .int .i64 a0_4, .int .i64 a0_5, .int .i64 a0_6, .int .i64 a0_7, .int .i64 a0_8, .int .i64 a0_9, .slice A0_10 l0_10.length c0_10]] rfl (by (try simp only [List.map_toArray, List.map_cons, List.map_nil]); first | done | rfl | (simp only [List.length_drop, List.length_take]; rfl)) ?_; (with_reducible refine (bellwetherref03_Plain.calls k a0_0 a0_1 a0_2 a0_3 a0_4 a0_5 a0_6 a0_7 a0_8 a0_9 _ _ l0_10 t319 _ ?side1 ?side2 A2.out).mono ?_); (case side1 => repeat (first | exact (Kd.C_below HR0_10.out HB.out) | (with_reducible refine Kd.C_alloc ?_ _) | (with_reducible refine Kd.C_drewN ?_ _) | (with_reducible refine Kd.C_drew ?_))); (case side2 => exact HC0_10.out); rintro e w6 ⟨rfl, hb⟩; refine ⟨_, rfl, ?_⟩; have n0_ := Aside0.mk (blk_below (g := gb318) (o := .cells #[.int .i64 a0_0, .int .i64 a0_1, .int .i64 a0_2, .int .i64 a0_3, .int .i64 a0_4, .int .i64 a0_5, .int .i64 a0_6, .int .i64 a0_7, .int .i64 a0_8, .int .i64 a0_9, .slice A0_10 l0_10.length c0_10] 35 (0, 0)) (by (with_reducible repeat (first | refine blk_drewN ?_ _ | refine blk_drew ?_ | refine blk_alloc ?_ _)); exact BK318.out) hb); have n1_ := Aside0.mk (below_step (by repeat (first | (with_reducible first | exact HB.out | apply below_alloc | apply pw_below_drewN | apply below_drew1 | refine below_set ?_ GE318.out) | exact HB.out)) hb); clear BK318; clear HB; have BK318 := n0_; have HB := n1_; clear n0_ n1_; (try clear hb); (try clear hb2); (try clear hk); (try clear hi)))
  go_loopg [3] k (fun kq v3 w' => ∃ (x3_1 : Int), v3 = .int .i64 x3_1 ∧ Aside0 (bellwetherlaw15_PlanKings.l0 kq x3_1 a0_0 a0_1 a0_2 a0_3 a0_4 a0_5 a0_6 a0_7 a0_8 a0_9 l0_10 = some r) ∧ Aside0 (kq ≤ k) ∧ Aside0 (w'.heap[gb318]? = some (.cells #[.int .i64 a0_0, .int .i64 a0_1, .int .i64 a0_2, .int .i64 a0_3, .int .i64 a0_4, .int .i64 a0_5, .int .i64 a0_6, .int .i64 a0_7, .int .i64 a0_8, .int .i64 a0_9, (.slice A0_10 l0_10.length c0_10)] 35 (0, 0))) ∧ Aside0 (Below w.heap.size w w'))
  case atStart => exact ⟨(0), (by first | rfl | (simp; done) | (simp [*]; done)), H', ⟨Nat.le_refl _⟩, ⟨by (with_reducible repeat (first | refine blk_drewN ?_ _ | refine blk_drew ?_ | refine blk_alloc ?_ _)); exact BK318.out⟩, ⟨by repeat (first | (with_reducible first | exact HB.out | apply below_alloc | apply pw_below_drewN | apply below_drew1 | refine below_set ?_ GE318.out) | exact HB.out)⟩⟩
  case round =>
   clear H'
   try clear c1
   try clear c2
   try clear p2
   try clear c3
   try clear c3b0
   try clear c3b1
   try clear hcz5_0
   try clear hcz5_1
   try clear hcz5_10
   try clear hcz5_2
   try clear hcz5_3
   try clear hcz5_4
   try clear hcz5_5
   try clear hcz5_6
   try clear hcz5_7
   try clear hcz5_8
   try clear hcz5_9
   try clear hfz5_0
   try clear hfz5_1
   try clear hfz5_10
   try clear hfz5_2
   try clear hfz5_3
   try clear hfz5_4
   try clear hfz5_5
   try clear hfz5_6
   try clear hfz5_7
   try clear hfz5_8
   try clear hfz5_9
   obtain ⟨x3_1, rfl, HA, HK1, BK318, HB⟩ := hrel
   cases gk with
   | zero => exact absurd HA.out (by simp [bellwetherlaw15_PlanKings.l0])
   | succ k1 =>
    have H := HA.out
    clear HA
    simp only [bellwetherlaw15_PlanKings.l0] at H
    replace H := Option.bind_eq_some_iff.mp H
    obtain ⟨t322, A70, H⟩ := H
    replace H : (if x3_1 < t322 then (bellwetherlaw15_PlanKings.l1 k1 x3_1 0 0 a0_0 a0_1 a0_2 a0_3 a0_4 a0_5 a0_6 a0_7 a0_8 a0_9 l0_10) else ((bellwetherlaw15_known.f k1).bind fun t323 => (some t323))) = some r := H
    have A7 := Aside0.mk A70
    clear A70
    by_cases c8 : x3_1 < t322
    ·
     rw [if_pos c8] at H
     have c8b0 : decide (x3_1 < t322) = true := decide_eq_true c8
     clear c8
     have H' := Aside0.mk H
     clear H
     have hcz9_0 : wr.cell? ⟨gb318, 0, none⟩ = some (.int .i64 a0_0) := (blk_cell BK318.out 0).trans rfl
     have hcz9_1 : wr.cell? ⟨gb318, 1, none⟩ = some (.int .i64 a0_1) := (blk_cell BK318.out 1).trans rfl
     have hcz9_2 : wr.cell? ⟨gb318, 2, none⟩ = some (.int .i64 a0_2) := (blk_cell BK318.out 2).trans rfl
     have hcz9_3 : wr.cell? ⟨gb318, 3, none⟩ = some (.int .i64 a0_3) := (blk_cell BK318.out 3).trans rfl
     have hcz9_4 : wr.cell? ⟨gb318, 4, none⟩ = some (.int .i64 a0_4) := (blk_cell BK318.out 4).trans rfl
     have hcz9_5 : wr.cell? ⟨gb318, 5, none⟩ = some (.int .i64 a0_5) := (blk_cell BK318.out 5).trans rfl
     have hcz9_6 : wr.cell? ⟨gb318, 6, none⟩ = some (.int .i64 a0_6) := (blk_cell BK318.out 6).trans rfl
     have hcz9_7 : wr.cell? ⟨gb318, 7, none⟩ = some (.int .i64 a0_7) := (blk_cell BK318.out 7).trans rfl
     have hcz9_8 : wr.cell? ⟨gb318, 8, none⟩ = some (.int .i64 a0_8) := (blk_cell BK318.out 8).trans rfl
     have hcz9_9 : wr.cell? ⟨gb318, 9, none⟩ = some (.int .i64 a0_9) := (blk_cell BK318.out 9).trans rfl
     have hcz9_10 : wr.cell? ⟨gb318, 10, none⟩ = some (.slice A0_10 l0_10.length c0_10) := (blk_cell BK318.out 10).trans rfl
     have hfz9_0 := blk_frozen BK318.out 0
     have hfz9_1 := blk_frozen BK318.out 1
     have hfz9_2 := blk_frozen BK318.out 2
     have hfz9_3 := blk_frozen BK318.out 3
     have hfz9_4 := blk_frozen BK318.out 4
     have hfz9_5 := blk_frozen BK318.out 5
     have hfz9_6 := blk_frozen BK318.out 6
     have hfz9_7 := blk_frozen BK318.out 7
     have hfz9_8 := blk_frozen BK318.out 8
     have hfz9_9 := blk_frozen BK318.out 9
     have hfz9_10 := blk_frozen BK318.out 10
     go_wp2_with (first | ((with_reducible refine gate_callee (f := 24) rfl ?_); refine goesL_ (some 19) rfl rfl Try.func24 (by kernel_rfl) rfl #[.agg #[.int .i64 a0_0, .int .i64 a0_1, .int .i64 a0_2, .int .i64 a0_3, .int .i64 a0_4, .int .i64 a0_5, .int .i64 a0_6, .int .i64 a0_7, .int .i64 a0_8, .int .i64 a0_9, .slice A0_10 l0_10.length c0_10]] rfl (by (try simp only [List.map_toArray, List.map_cons, List.map_nil]); first | done | rfl | (simp only [List.length_drop, List.length_take]; rfl)) ?_; (with_reducible refine (bellwetherref03_Rounds.calls k1 a0_0 a0_1 a0_2 a0_3 a0_4 a0_5 a0_6 a0_7 a0_8 a0_9 _ _ l0_10 t322 _ ?side1 ?side2 A7.out).mono ?_); (case side1 => repeat (first | exact (Kd.C_below HR0_10.out HB.out) | (with_reducible refine Kd.C_alloc ?_ _) | (with_reducible refine Kd.C_drewN ?_ _) | (with_reducible refine Kd.C_drew ?_))); (case side2 => exact HC0_10.out); rintro e w10 ⟨rfl, hb⟩; refine ⟨_, rfl, ?_⟩; have n0_ := Aside0.mk (blk_below (g := gb318) (o := .cells #[.int .i64 a0_0, .int .i64 a0_1, .int .i64 a0_2, .int .i64 a0_3, .int .i64 a0_4, .int .i64 a0_5, .int .i64 a0_6, .int .i64 a0_7, .int .i64 a0_8, .int .i64 a0_9, .slice A0_10 l0_10.length c0_10] 35 (0, 0)) (by (with_reducible repeat (first | refine blk_drewN ?_ _ | refine blk_drew ?_ | refine blk_alloc ?_ _)); exact BK318.out) hb); have n1_ := Aside0.mk (below_step (by repeat (first | (with_reducible first | exact HB.out | apply below_alloc | apply pw_below_drewN | apply below_drew1 | refine below_set ?_ GE318.out) | exact HB.out)) hb); clear BK318; clear HB; have BK318 := n0_; have HB := n1_; clear n0_ n1_; (try clear hb); (try clear hb2); (try clear hk); (try clear hi)))
     go_loopg [4, 5] k1 (fun kq v4 v5 w' => ∃ (x4_2 : Int) (x5_2 : Int), v4 = .int .i64 x4_2 ∧ v5 = .int .i64 x5_2 ∧ Aside0 (bellwetherlaw15_PlanKings.l1 kq x3_1 x4_2 x5_2 a0_0 a0_1 a0_2 a0_3 a0_4 a0_5 a0_6 a0_7 a0_8 a0_9 l0_10 = some r) ∧ Aside0 (kq ≤ k1) ∧ Aside0 (w'.heap[gb318]? = some (.cells #[.int .i64 a0_0, .int .i64 a0_1, .int .i64 a0_2, .int .i64 a0_3, .int .i64 a0_4, .int .i64 a0_5, .int .i64 a0_6, .int .i64 a0_7, .int .i64 a0_8, .int .i64 a0_9, (.slice A0_10 l0_10.length c0_10)] 35 (0, 0))) ∧ Aside0 (Below w.heap.size w w'))
     case atStart => exact ⟨(0), (0), (by first | rfl | (simp; done) | (simp [*]; done)), (by first | rfl | (simp; done) | (simp [*]; done)), H', ⟨Nat.le_refl _⟩, ⟨by (with_reducible repeat (first | refine blk_drewN ?_ _ | refine blk_drew ?_ | refine blk_alloc ?_ _)); exact BK318.out⟩, ⟨by repeat (first | (with_reducible first | exact HB.out | apply below_alloc | apply pw_below_drewN | apply below_drew1 | refine below_set ?_ GE318.out) | exact HB.out)⟩⟩
     case round =>
      clear H'
      try clear c1
      try clear c2
      try clear p2
      try clear c3
      try clear c3b0
      try clear c3b1
      try clear c8
      try clear c8b0
      try clear hcz5_0
      try clear hcz5_1
      try clear hcz5_10
      try clear hcz5_2
      try clear hcz5_3
      try clear hcz5_4
      try clear hcz5_5
      try clear hcz5_6
      try clear hcz5_7
      try clear hcz5_8
      try clear hcz5_9
      try clear hcz9_0
      try clear hcz9_1
      try clear hcz9_10
      try clear hcz9_2
      try clear hcz9_3
      try clear hcz9_4
      try clear hcz9_5
      try clear hcz9_6
      try clear hcz9_7
      try clear hcz9_8
      try clear hcz9_9
      try clear hfz5_0
      try clear hfz5_1
      try clear hfz5_10
      try clear hfz5_2
      try clear hfz5_3
      try clear hfz5_4
      try clear hfz5_5
      try clear hfz5_6
      try clear hfz5_7
      try clear hfz5_8
      try clear hfz5_9
      try clear hfz9_0
      try clear hfz9_1
      try clear hfz9_10
      try clear hfz9_2
      try clear hfz9_3
      try clear hfz9_4
      try clear hfz9_5
      try clear hfz9_6
      try clear hfz9_7
      try clear hfz9_8
      try clear hfz9_9
      try clear p2
      obtain ⟨x4_2, x5_2, rfl, rfl, HA, HK2, BK318, HB⟩ := hrel
      cases gk with
      | zero => exact absurd HA.out (by simp [bellwetherlaw15_PlanKings.l1])
      | succ k2 =>
       have H := HA.out
       clear HA
       simp only [bellwetherlaw15_PlanKings.l1] at H
       replace H := Option.bind_eq_some_iff.mp H
       obtain ⟨t324, A110, H⟩ := H
       replace H : (if x5_2 ≤ t324 then ((plan_Hears.f k2 a0_0 a0_1 a0_2 a0_3 a0_4 a0_5 a0_6 a0_7 a0_8 a0_9 l0_10 x5_2).bind fun t325 => (if t325 = x3_1 then (bellwetherlaw15_PlanKings.l1 k2 x3_1 (wrap64 (x4_2 + 1)) (wrap64 (x5_2 + 1)) a0_0 a0_1 a0_2 a0_3 a0_4 a0_5 a0_6 a0_7 a0_8 a0_9 l0_10) else (bellwetherlaw15_PlanKings.l1 k2 x3_1 x4_2 (wrap64 (x5_2 + 1)) a0_0 a0_1 a0_2 a0_3 a0_4 a0_5 a0_6 a0_7 a0_8 a0_9 l0_10))) else ((plan_King.f k2 a0_0 a0_1 a0_2 a0_3 a0_4 a0_5 a0_6 a0_7 a0_8 a0_9 l0_10 x3_1).bind fun t326 => (if x4_2 = 1 then (if t326 < 0 then (bellwetherlaw15_PlanKings.j2 k2 x3_1 t326 true a0_0 a0_1 a0_2 a0_3 a0_4 a0_5 a0_6 a0_7 a0_8 a0_9 l0_10) else (bellwetherlaw15_PlanKings.j2 k2 x3_1 t326 (decide (t326 ≥ a0_0)) a0_0 a0_1 a0_2 a0_3 a0_4 a0_5 a0_6 a0_7 a0_8 a0_9 l0_10)) else (bellwetherlaw15_PlanKings.j2 k2 x3_1 t326 true a0_0 a0_1 a0_2 a0_3 a0_4 a0_5 a0_6 a0_7 a0_8 a0_9 l0_10)))) = some r := H
       have A11 := Aside0.mk A110
       clear A110
       by_cases c12 : x5_2 ≤ t324
       ·
        rw [if_pos c12] at H
        have c12b0 : decide (x5_2 ≤ t324) = true := decide_eq_true c12
        clear c12
        replace H := Option.bind_eq_some_iff.mp H
        obtain ⟨t325, A130, H⟩ := H
        replace H : (if t325 = x3_1 then (bellwetherlaw15_PlanKings.l1 k2 x3_1 (wrap64 (x4_2 + 1)) (wrap64 (x5_2 + 1)) a0_0 a0_1 a0_2 a0_3 a0_4 a0_5 a0_6 a0_7 a0_8 a0_9 l0_10) else (bellwetherlaw15_PlanKings.l1 k2 x3_1 x4_2 (wrap64 (x5_2 + 1)) a0_0 a0_1 a0_2 a0_3 a0_4 a0_5 a0_6 a0_7 a0_8 a0_9 l0_10)) = some r := H
        have A13 := Aside0.mk A130
        clear A130
        by_cases c14 : t325 = x3_1
        ·
         rw [if_pos c14] at H
         have c14b0 : (t325 == x3_1) = true := beq_iff_eq.mpr c14
         have c14b1 : (t325 != x3_1) = false := bne_eq_false_iff_eq.mpr c14
         clear c14
         have H' := Aside0.mk H
         clear H
         have hcz15_0 : wr.cell? ⟨gb318, 0, none⟩ = some (.int .i64 a0_0) := (blk_cell BK318.out 0).trans rfl
         have hcz15_1 : wr.cell? ⟨gb318, 1, none⟩ = some (.int .i64 a0_1) := (blk_cell BK318.out 1).trans rfl
         have hcz15_2 : wr.cell? ⟨gb318, 2, none⟩ = some (.int .i64 a0_2) := (blk_cell BK318.out 2).trans rfl
         have hcz15_3 : wr.cell? ⟨gb318, 3, none⟩ = some (.int .i64 a0_3) := (blk_cell BK318.out 3).trans rfl
         have hcz15_4 : wr.cell? ⟨gb318, 4, none⟩ = some (.int .i64 a0_4) := (blk_cell BK318.out 4).trans rfl
         have hcz15_5 : wr.cell? ⟨gb318, 5, none⟩ = some (.int .i64 a0_5) := (blk_cell BK318.out 5).trans rfl
         have hcz15_6 : wr.cell? ⟨gb318, 6, none⟩ = some (.int .i64 a0_6) := (blk_cell BK318.out 6).trans rfl
         have hcz15_7 : wr.cell? ⟨gb318, 7, none⟩ = some (.int .i64 a0_7) := (blk_cell BK318.out 7).trans rfl
         have hcz15_8 : wr.cell? ⟨gb318, 8, none⟩ = some (.int .i64 a0_8) := (blk_cell BK318.out 8).trans rfl
         have hcz15_9 : wr.cell? ⟨gb318, 9, none⟩ = some (.int .i64 a0_9) := (blk_cell BK318.out 9).trans rfl
         have hcz15_10 : wr.cell? ⟨gb318, 10, none⟩ = some (.slice A0_10 l0_10.length c0_10) := (blk_cell BK318.out 10).trans rfl
         have hfz15_0 := blk_frozen BK318.out 0
         have hfz15_1 := blk_frozen BK318.out 1
         have hfz15_2 := blk_frozen BK318.out 2
         have hfz15_3 := blk_frozen BK318.out 3
         have hfz15_4 := blk_frozen BK318.out 4
         have hfz15_5 := blk_frozen BK318.out 5
         have hfz15_6 := blk_frozen BK318.out 6
         have hfz15_7 := blk_frozen BK318.out 7
         have hfz15_8 := blk_frozen BK318.out 8
         have hfz15_9 := blk_frozen BK318.out 9
         have hfz15_10 := blk_frozen BK318.out 10
         go_wp2_with (first | ((with_reducible refine gate_callee (f := 26) rfl ?_); refine goesL_ (some 25) rfl rfl Try.func26 (by kernel_rfl) rfl #[.agg #[.int .i64 a0_0, .int .i64 a0_1, .int .i64 a0_2, .int .i64 a0_3, .int .i64 a0_4, .int .i64 a0_5, .int .i64 a0_6, .int .i64 a0_7, .int .i64 a0_8, .int .i64 a0_9, .slice A0_10 l0_10.length c0_10]] rfl (by (try simp only [List.map_toArray, List.map_cons, List.map_nil]); first | done | rfl | (simp only [List.length_drop, List.length_take]; rfl)) ?_; (with_reducible refine (bellwetherref03_Length.calls k2 a0_0 a0_1 a0_2 a0_3 a0_4 a0_5 a0_6 a0_7 a0_8 a0_9 _ _ l0_10 t324 _ ?side1 ?side2 A11.out).mono ?_); (case side1 => repeat (first | exact (Kd.C_below HR0_10.out HB.out) | (with_reducible refine Kd.C_alloc ?_ _) | (with_reducible refine Kd.C_drewN ?_ _) | (with_reducible refine Kd.C_drew ?_))); (case side2 => exact HC0_10.out); rintro e w16 ⟨rfl, hb⟩; refine ⟨_, rfl, ?_⟩; have n0_ := Aside0.mk (blk_below (g := gb318) (o := .cells #[.int .i64 a0_0, .int .i64 a0_1, .int .i64 a0_2, .int .i64 a0_3, .int .i64 a0_4, .int .i64 a0_5, .int .i64 a0_6, .int .i64 a0_7, .int .i64 a0_8, .int .i64 a0_9, .slice A0_10 l0_10.length c0_10] 35 (0, 0)) (by (with_reducible repeat (first | refine blk_drewN ?_ _ | refine blk_drew ?_ | refine blk_alloc ?_ _)); exact BK318.out) hb); have n1_ := Aside0.mk (below_step (by repeat (first | (with_reducible first | exact HB.out | apply below_alloc | apply pw_below_drewN | apply below_drew1 | refine below_set ?_ GE318.out) | exact HB.out)) hb); clear BK318; clear HB; have BK318 := n0_; have HB := n1_; clear n0_ n1_; (try clear hb); (try clear hb2); (try clear hk); (try clear hi); have hcz17_0 : w16.cell? ⟨gb318, 0, none⟩ = some (.int .i64 a0_0) := (blk_cell BK318.out 0).trans rfl; have hcz17_1 : w16.cell? ⟨gb318, 1, none⟩ = some (.int .i64 a0_1) := (blk_cell BK318.out 1).trans rfl; have hcz17_2 : w16.cell? ⟨gb318, 2, none⟩ = some (.int .i64 a0_2) := (blk_cell BK318.out 2).trans rfl; have hcz17_3 : w16.cell? ⟨gb318, 3, none⟩ = some (.int .i64 a0_3) := (blk_cell BK318.out 3).trans rfl; have hcz17_4 : w16.cell? ⟨gb318, 4, none⟩ = some (.int .i64 a0_4) := (blk_cell BK318.out 4).trans rfl; have hcz17_5 : w16.cell? ⟨gb318, 5, none⟩ = some (.int .i64 a0_5) := (blk_cell BK318.out 5).trans rfl; have hcz17_6 : w16.cell? ⟨gb318, 6, none⟩ = some (.int .i64 a0_6) := (blk_cell BK318.out 6).trans rfl; have hcz17_7 : w16.cell? ⟨gb318, 7, none⟩ = some (.int .i64 a0_7) := (blk_cell BK318.out 7).trans rfl; have hcz17_8 : w16.cell? ⟨gb318, 8, none⟩ = some (.int .i64 a0_8) := (blk_cell BK318.out 8).trans rfl; have hcz17_9 : w16.cell? ⟨gb318, 9, none⟩ = some (.int .i64 a0_9) := (blk_cell BK318.out 9).trans rfl; have hcz17_10 : w16.cell? ⟨gb318, 10, none⟩ = some (.slice A0_10 l0_10.length c0_10) := (blk_cell BK318.out 10).trans rfl; have hfz17_0 := blk_frozen BK318.out 0; have hfz17_1 := blk_frozen BK318.out 1; have hfz17_2 := blk_frozen BK318.out 2; have hfz17_3 := blk_frozen BK318.out 3; have hfz17_4 := blk_frozen BK318.out 4; have hfz17_5 := blk_frozen BK318.out 5; have hfz17_6 := blk_frozen BK318.out 6; have hfz17_7 := blk_frozen BK318.out 7; have hfz17_8 := blk_frozen BK318.out 8; have hfz17_9 := blk_frozen BK318.out 9; have hfz17_10 := blk_frozen BK318.out 10) | ((with_reducible refine gate_callee (f := 32) rfl ?_); refine goesL_ (some 31) rfl rfl Try.func32 (by kernel_rfl) rfl #[.agg #[.int .i64 a0_0, .int .i64 a0_1, .int .i64 a0_2, .int .i64 a0_3, .int .i64 a0_4, .int .i64 a0_5, .int .i64 a0_6, .int .i64 a0_7, .int .i64 a0_8, .int .i64 a0_9, .slice A0_10 l0_10.length c0_10], .int .i64 x5_2] rfl (by (try simp only [List.map_toArray, List.map_cons, List.map_nil]); first | done | rfl | (simp only [List.length_drop, List.length_take]; rfl)) ?_; (with_reducible refine (plan_Hears.calls k2 a0_0 a0_1 a0_2 a0_3 a0_4 a0_5 a0_6 a0_7 a0_8 a0_9 _ _ l0_10 x5_2 t325 _ ?side1 ?side2 A13.out).mono ?_); (case side1 => repeat (first | exact (Kd.C_below HR0_10.out HB.out) | (with_reducible refine Kd.C_alloc ?_ _) | (with_reducible refine Kd.C_drewN ?_ _) | (with_reducible refine Kd.C_drew ?_))); (case side2 => exact HC0_10.out); rintro e w18 ⟨rfl, hb⟩; refine ⟨_, rfl, ?_⟩; have n0_ := Aside0.mk (blk_below (g := gb318) (o := .cells #[.int .i64 a0_0, .int .i64 a0_1, .int .i64 a0_2, .int .i64 a0_3, .int .i64 a0_4, .int .i64 a0_5, .int .i64 a0_6, .int .i64 a0_7, .int .i64 a0_8, .int .i64 a0_9, .slice A0_10 l0_10.length c0_10] 35 (0, 0)) (by (with_reducible repeat (first | refine blk_drewN ?_ _ | refine blk_drew ?_ | refine blk_alloc ?_ _)); exact BK318.out) hb); have n1_ := Aside0.mk (below_step (by repeat (first | (with_reducible first | exact HB.out | apply below_alloc | apply pw_below_drewN | apply below_drew1 | refine below_set ?_ GE318.out) | exact HB.out)) hb); clear BK318; clear HB; have BK318 := n0_; have HB := n1_; clear n0_ n1_; (try clear hb); (try clear hb2); (try clear hk); (try clear hi)))
         go_roundg k2
         case measure => have := HK1.out; have := HK2.out; omega
         case rel => exact ⟨(wrap64 (x4_2 + 1)), (wrap64 (x5_2 + 1)), (by first | rfl | (simp; done) | (simp [*]; done)), (by first | rfl | (simp; done) | (simp [*]; done)), H', ⟨by have := HK1.out; have := HK2.out; omega⟩, ⟨by (with_reducible repeat (first | refine blk_drewN ?_ _ | refine blk_drew ?_ | refine blk_alloc ?_ _)); exact BK318.out⟩, ⟨by repeat (first | (with_reducible first | exact HB.out | apply below_alloc | apply pw_below_drewN | apply below_drew1 | refine below_set ?_ GE318.out) | exact HB.out)⟩⟩
        ·
         rw [if_neg c14] at H
         have c14b0 : (t325 == x3_1) = false := beq_eq_false_iff_ne.mpr c14
         have c14b1 : (t325 != x3_1) = true := bne_iff_ne.mpr c14
         have H' := Aside0.mk H
         clear H
         have hcz19_0 : wr.cell? ⟨gb318, 0, none⟩ = some (.int .i64 a0_0) := (blk_cell BK318.out 0).trans rfl
         have hcz19_1 : wr.cell? ⟨gb318, 1, none⟩ = some (.int .i64 a0_1) := (blk_cell BK318.out 1).trans rfl
         have hcz19_2 : wr.cell? ⟨gb318, 2, none⟩ = some (.int .i64 a0_2) := (blk_cell BK318.out 2).trans rfl
         have hcz19_3 : wr.cell? ⟨gb318, 3, none⟩ = some (.int .i64 a0_3) := (blk_cell BK318.out 3).trans rfl
         have hcz19_4 : wr.cell? ⟨gb318, 4, none⟩ = some (.int .i64 a0_4) := (blk_cell BK318.out 4).trans rfl
         have hcz19_5 : wr.cell? ⟨gb318, 5, none⟩ = some (.int .i64 a0_5) := (blk_cell BK318.out 5).trans rfl
         have hcz19_6 : wr.cell? ⟨gb318, 6, none⟩ = some (.int .i64 a0_6) := (blk_cell BK318.out 6).trans rfl
         have hcz19_7 : wr.cell? ⟨gb318, 7, none⟩ = some (.int .i64 a0_7) := (blk_cell BK318.out 7).trans rfl
         have hcz19_8 : wr.cell? ⟨gb318, 8, none⟩ = some (.int .i64 a0_8) := (blk_cell BK318.out 8).trans rfl
         have hcz19_9 : wr.cell? ⟨gb318, 9, none⟩ = some (.int .i64 a0_9) := (blk_cell BK318.out 9).trans rfl
         have hcz19_10 : wr.cell? ⟨gb318, 10, none⟩ = some (.slice A0_10 l0_10.length c0_10) := (blk_cell BK318.out 10).trans rfl
         have hfz19_0 := blk_frozen BK318.out 0
         have hfz19_1 := blk_frozen BK318.out 1
         have hfz19_2 := blk_frozen BK318.out 2
         have hfz19_3 := blk_frozen BK318.out 3
         have hfz19_4 := blk_frozen BK318.out 4
         have hfz19_5 := blk_frozen BK318.out 5
         have hfz19_6 := blk_frozen BK318.out 6
         have hfz19_7 := blk_frozen BK318.out 7
         have hfz19_8 := blk_frozen BK318.out 8
         have hfz19_9 := blk_frozen BK318.out 9
         have hfz19_10 := blk_frozen BK318.out 10
         go_wp2_with (first | ((with_reducible refine gate_callee (f := 26) rfl ?_); refine goesL_ (some 25) rfl rfl Try.func26 (by kernel_rfl) rfl #[.agg #[.int .i64 a0_0, .int .i64 a0_1, .int .i64 a0_2, .int .i64 a0_3, .int .i64 a0_4, .int .i64 a0_5, .int .i64 a0_6, .int .i64 a0_7, .int .i64 a0_8, .int .i64 a0_9, .slice A0_10 l0_10.length c0_10]] rfl (by (try simp only [List.map_toArray, List.map_cons, List.map_nil]); first | done | rfl | (simp only [List.length_drop, List.length_take]; rfl)) ?_; (with_reducible refine (bellwetherref03_Length.calls k2 a0_0 a0_1 a0_2 a0_3 a0_4 a0_5 a0_6 a0_7 a0_8 a0_9 _ _ l0_10 t324 _ ?side1 ?side2 A11.out).mono ?_); (case side1 => repeat (first | exact (Kd.C_below HR0_10.out HB.out) | (with_reducible refine Kd.C_alloc ?_ _) | (with_reducible refine Kd.C_drewN ?_ _) | (with_reducible refine Kd.C_drew ?_))); (case side2 => exact HC0_10.out); rintro e w20 ⟨rfl, hb⟩; refine ⟨_, rfl, ?_⟩; have n0_ := Aside0.mk (blk_below (g := gb318) (o := .cells #[.int .i64 a0_0, .int .i64 a0_1, .int .i64 a0_2, .int .i64 a0_3, .int .i64 a0_4, .int .i64 a0_5, .int .i64 a0_6, .int .i64 a0_7, .int .i64 a0_8, .int .i64 a0_9, .slice A0_10 l0_10.length c0_10] 35 (0, 0)) (by (with_reducible repeat (first | refine blk_drewN ?_ _ | refine blk_drew ?_ | refine blk_alloc ?_ _)); exact BK318.out) hb); have n1_ := Aside0.mk (below_step (by repeat (first | (with_reducible first | exact HB.out | apply below_alloc | apply pw_below_drewN | apply below_drew1 | refine below_set ?_ GE318.out) | exact HB.out)) hb); clear BK318; clear HB; have BK318 := n0_; have HB := n1_; clear n0_ n1_; (try clear hb); (try clear hb2); (try clear hk); (try clear hi); have hcz21_0 : w20.cell? ⟨gb318, 0, none⟩ = some (.int .i64 a0_0) := (blk_cell BK318.out 0).trans rfl; have hcz21_1 : w20.cell? ⟨gb318, 1, none⟩ = some (.int .i64 a0_1) := (blk_cell BK318.out 1).trans rfl; have hcz21_2 : w20.cell? ⟨gb318, 2, none⟩ = some (.int .i64 a0_2) := (blk_cell BK318.out 2).trans rfl; have hcz21_3 : w20.cell? ⟨gb318, 3, none⟩ = some (.int .i64 a0_3) := (blk_cell BK318.out 3).trans rfl; have hcz21_4 : w20.cell? ⟨gb318, 4, none⟩ = some (.int .i64 a0_4) := (blk_cell BK318.out 4).trans rfl; have hcz21_5 : w20.cell? ⟨gb318, 5, none⟩ = some (.int .i64 a0_5) := (blk_cell BK318.out 5).trans rfl; have hcz21_6 : w20.cell? ⟨gb318, 6, none⟩ = some (.int .i64 a0_6) := (blk_cell BK318.out 6).trans rfl; have hcz21_7 : w20.cell? ⟨gb318, 7, none⟩ = some (.int .i64 a0_7) := (blk_cell BK318.out 7).trans rfl; have hcz21_8 : w20.cell? ⟨gb318, 8, none⟩ = some (.int .i64 a0_8) := (blk_cell BK318.out 8).trans rfl; have hcz21_9 : w20.cell? ⟨gb318, 9, none⟩ = some (.int .i64 a0_9) := (blk_cell BK318.out 9).trans rfl; have hcz21_10 : w20.cell? ⟨gb318, 10, none⟩ = some (.slice A0_10 l0_10.length c0_10) := (blk_cell BK318.out 10).trans rfl; have hfz21_0 := blk_frozen BK318.out 0; have hfz21_1 := blk_frozen BK318.out 1; have hfz21_2 := blk_frozen BK318.out 2; have hfz21_3 := blk_frozen BK318.out 3; have hfz21_4 := blk_frozen BK318.out 4; have hfz21_5 := blk_frozen BK318.out 5; have hfz21_6 := blk_frozen BK318.out 6; have hfz21_7 := blk_frozen BK318.out 7; have hfz21_8 := blk_frozen BK318.out 8; have hfz21_9 := blk_frozen BK318.out 9; have hfz21_10 := blk_frozen BK318.out 10) | ((with_reducible refine gate_callee (f := 32) rfl ?_); refine goesL_ (some 31) rfl rfl Try.func32 (by kernel_rfl) rfl #[.agg #[.int .i64 a0_0, .int .i64 a0_1, .int .i64 a0_2, .int .i64 a0_3, .int .i64 a0_4, .int .i64 a0_5, .int .i64 a0_6, .int .i64 a0_7, .int .i64 a0_8, .int .i64 a0_9, .slice A0_10 l0_10.length c0_10], .int .i64 x5_2] rfl (by (try simp only [List.map_toArray, List.map_cons, List.map_nil]); first | done | rfl | (simp only [List.length_drop, List.length_take]; rfl)) ?_; (with_reducible refine (plan_Hears.calls k2 a0_0 a0_1 a0_2 a0_3 a0_4 a0_5 a0_6 a0_7 a0_8 a0_9 _ _ l0_10 x5_2 t325 _ ?side1 ?side2 A13.out).mono ?_); (case side1 => repeat (first | exact (Kd.C_below HR0_10.out HB.out) | (with_reducible refine Kd.C_alloc ?_ _) | (with_reducible refine Kd.C_drewN ?_ _) | (with_reducible refine Kd.C_drew ?_))); (case side2 => exact HC0_10.out); rintro e w22 ⟨rfl, hb⟩; refine ⟨_, rfl, ?_⟩; have n0_ := Aside0.mk (blk_below (g := gb318) (o := .cells #[.int .i64 a0_0, .int .i64 a0_1, .int .i64 a0_2, .int .i64 a0_3, .int .i64 a0_4, .int .i64 a0_5, .int .i64 a0_6, .int .i64 a0_7, .int .i64 a0_8, .int .i64 a0_9, .slice A0_10 l0_10.length c0_10] 35 (0, 0)) (by (with_reducible repeat (first | refine blk_drewN ?_ _ | refine blk_drew ?_ | refine blk_alloc ?_ _)); exact BK318.out) hb); have n1_ := Aside0.mk (below_step (by repeat (first | (with_reducible first | exact HB.out | apply below_alloc | apply pw_below_drewN | apply below_drew1 | refine below_set ?_ GE318.out) | exact HB.out)) hb); clear BK318; clear HB; have BK318 := n0_; have HB := n1_; clear n0_ n1_; (try clear hb); (try clear hb2); (try clear hk); (try clear hi)))
         go_roundg k2
         case measure => have := HK1.out; have := HK2.out; omega
         case rel => exact ⟨(x4_2), (wrap64 (x5_2 + 1)), (by first | rfl | (simp; done) | (simp [*]; done)), (by first | rfl | (simp; done) | (simp [*]; done)), H', ⟨by have := HK1.out; have := HK2.out; omega⟩, ⟨by (with_reducible repeat (first | refine blk_drewN ?_ _ | refine blk_drew ?_ | refine blk_alloc ?_ _)); exact BK318.out⟩, ⟨by repeat (first | (with_reducible first | exact HB.out | apply below_alloc | apply pw_below_drewN | apply below_drew1 | refine below_set ?_ GE318.out) | exact HB.out)⟩⟩
       ·
        rw [if_neg c12] at H
        have c12b0 : decide (x5_2 ≤ t324) = false := decide_eq_false c12
        clear c12
        replace H := Option.bind_eq_some_iff.mp H
        obtain ⟨t326, A230, H⟩ := H
        replace H : (if x4_2 = 1 then (if t326 < 0 then (bellwetherlaw15_PlanKings.j2 k2 x3_1 t326 true a0_0 a0_1 a0_2 a0_3 a0_4 a0_5 a0_6 a0_7 a0_8 a0_9 l0_10) else (bellwetherlaw15_PlanKings.j2 k2 x3_1 t326 (decide (t326 ≥ a0_0)) a0_0 a0_1 a0_2 a0_3 a0_4 a0_5 a0_6 a0_7 a0_8 a0_9 l0_10)) else (bellwetherlaw15_PlanKings.j2 k2 x3_1 t326 true a0_0 a0_1 a0_2 a0_3 a0_4 a0_5 a0_6 a0_7 a0_8 a0_9 l0_10)) = some r := H
        have A23 := Aside0.mk A230
        clear A230
        have HC24 := Aside0.mk H
        clear H
        have hcz25_0 : wr.cell? ⟨gb318, 0, none⟩ = some (.int .i64 a0_0) := (blk_cell BK318.out 0).trans rfl
        have hcz25_1 : wr.cell? ⟨gb318, 1, none⟩ = some (.int .i64 a0_1) := (blk_cell BK318.out 1).trans rfl
        have hcz25_2 : wr.cell? ⟨gb318, 2, none⟩ = some (.int .i64 a0_2) := (blk_cell BK318.out 2).trans rfl
        have hcz25_3 : wr.cell? ⟨gb318, 3, none⟩ = some (.int .i64 a0_3) := (blk_cell BK318.out 3).trans rfl
        have hcz25_4 : wr.cell? ⟨gb318, 4, none⟩ = some (.int .i64 a0_4) := (blk_cell BK318.out 4).trans rfl
        have hcz25_5 : wr.cell? ⟨gb318, 5, none⟩ = some (.int .i64 a0_5) := (blk_cell BK318.out 5).trans rfl
        have hcz25_6 : wr.cell? ⟨gb318, 6, none⟩ = some (.int .i64 a0_6) := (blk_cell BK318.out 6).trans rfl
        have hcz25_7 : wr.cell? ⟨gb318, 7, none⟩ = some (.int .i64 a0_7) := (blk_cell BK318.out 7).trans rfl
        have hcz25_8 : wr.cell? ⟨gb318, 8, none⟩ = some (.int .i64 a0_8) := (blk_cell BK318.out 8).trans rfl
        have hcz25_9 : wr.cell? ⟨gb318, 9, none⟩ = some (.int .i64 a0_9) := (blk_cell BK318.out 9).trans rfl
        have hcz25_10 : wr.cell? ⟨gb318, 10, none⟩ = some (.slice A0_10 l0_10.length c0_10) := (blk_cell BK318.out 10).trans rfl
        have hfz25_0 := blk_frozen BK318.out 0
        have hfz25_1 := blk_frozen BK318.out 1
        have hfz25_2 := blk_frozen BK318.out 2
        have hfz25_3 := blk_frozen BK318.out 3
        have hfz25_4 := blk_frozen BK318.out 4
        have hfz25_5 := blk_frozen BK318.out 5
        have hfz25_6 := blk_frozen BK318.out 6
        have hfz25_7 := blk_frozen BK318.out 7
        have hfz25_8 := blk_frozen BK318.out 8
        have hfz25_9 := blk_frozen BK318.out 9
        have hfz25_10 := blk_frozen BK318.out 10
        go_upto_region 13 with (first | ((with_reducible refine gate_callee (f := 26) rfl ?_); refine goesL_ (some 25) rfl rfl Try.func26 (by kernel_rfl) rfl #[.agg #[.int .i64 a0_0, .int .i64 a0_1, .int .i64 a0_2, .int .i64 a0_3, .int .i64 a0_4, .int .i64 a0_5, .int .i64 a0_6, .int .i64 a0_7, .int .i64 a0_8, .int .i64 a0_9, .slice A0_10 l0_10.length c0_10]] rfl (by (try simp only [List.map_toArray, List.map_cons, List.map_nil]); first | done | rfl | (simp only [List.length_drop, List.length_take]; rfl)) ?_; (with_reducible refine (bellwetherref03_Length.calls k2 a0_0 a0_1 a0_2 a0_3 a0_4 a0_5 a0_6 a0_7 a0_8 a0_9 _ _ l0_10 t324 _ ?side1 ?side2 A11.out).mono ?_); (case side1 => repeat (first | exact (Kd.C_below HR0_10.out HB.out) | (with_reducible refine Kd.C_alloc ?_ _) | (with_reducible refine Kd.C_drewN ?_ _) | (with_reducible refine Kd.C_drew ?_))); (case side2 => exact HC0_10.out); rintro e w26 ⟨rfl, hb⟩; refine ⟨_, rfl, ?_⟩; have n0_ := Aside0.mk (blk_below (g := gb318) (o := .cells #[.int .i64 a0_0, .int .i64 a0_1, .int .i64 a0_2, .int .i64 a0_3, .int .i64 a0_4, .int .i64 a0_5, .int .i64 a0_6, .int .i64 a0_7, .int .i64 a0_8, .int .i64 a0_9, .slice A0_10 l0_10.length c0_10] 35 (0, 0)) (by (with_reducible repeat (first | refine blk_drewN ?_ _ | refine blk_drew ?_ | refine blk_alloc ?_ _)); exact BK318.out) hb); have n1_ := Aside0.mk (below_step (by repeat (first | (with_reducible first | exact HB.out | apply below_alloc | apply pw_below_drewN | apply below_drew1 | refine below_set ?_ GE318.out) | exact HB.out)) hb); clear BK318; clear HB; have BK318 := n0_; have HB := n1_; clear n0_ n1_; (try clear hb); (try clear hb2); (try clear hk); (try clear hi); have hcz27_0 : w26.cell? ⟨gb318, 0, none⟩ = some (.int .i64 a0_0) := (blk_cell BK318.out 0).trans rfl; have hcz27_1 : w26.cell? ⟨gb318, 1, none⟩ = some (.int .i64 a0_1) := (blk_cell BK318.out 1).trans rfl; have hcz27_2 : w26.cell? ⟨gb318, 2, none⟩ = some (.int .i64 a0_2) := (blk_cell BK318.out 2).trans rfl; have hcz27_3 : w26.cell? ⟨gb318, 3, none⟩ = some (.int .i64 a0_3) := (blk_cell BK318.out 3).trans rfl; have hcz27_4 : w26.cell? ⟨gb318, 4, none⟩ = some (.int .i64 a0_4) := (blk_cell BK318.out 4).trans rfl; have hcz27_5 : w26.cell? ⟨gb318, 5, none⟩ = some (.int .i64 a0_5) := (blk_cell BK318.out 5).trans rfl; have hcz27_6 : w26.cell? ⟨gb318, 6, none⟩ = some (.int .i64 a0_6) := (blk_cell BK318.out 6).trans rfl; have hcz27_7 : w26.cell? ⟨gb318, 7, none⟩ = some (.int .i64 a0_7) := (blk_cell BK318.out 7).trans rfl; have hcz27_8 : w26.cell? ⟨gb318, 8, none⟩ = some (.int .i64 a0_8) := (blk_cell BK318.out 8).trans rfl; have hcz27_9 : w26.cell? ⟨gb318, 9, none⟩ = some (.int .i64 a0_9) := (blk_cell BK318.out 9).trans rfl; have hcz27_10 : w26.cell? ⟨gb318, 10, none⟩ = some (.slice A0_10 l0_10.length c0_10) := (blk_cell BK318.out 10).trans rfl; have hfz27_0 := blk_frozen BK318.out 0; have hfz27_1 := blk_frozen BK318.out 1; have hfz27_2 := blk_frozen BK318.out 2; have hfz27_3 := blk_frozen BK318.out 3; have hfz27_4 := blk_frozen BK318.out 4; have hfz27_5 := blk_frozen BK318.out 5; have hfz27_6 := blk_frozen BK318.out 6; have hfz27_7 := blk_frozen BK318.out 7; have hfz27_8 := blk_frozen BK318.out 8; have hfz27_9 := blk_frozen BK318.out 9; have hfz27_10 := blk_frozen BK318.out 10) | ((with_reducible refine gate_callee (f := 34) rfl ?_); refine goesL_ (some 38) rfl rfl Try.func34 (by kernel_rfl) rfl #[.agg #[.int .i64 a0_0, .int .i64 a0_1, .int .i64 a0_2, .int .i64 a0_3, .int .i64 a0_4, .int .i64 a0_5, .int .i64 a0_6, .int .i64 a0_7, .int .i64 a0_8, .int .i64 a0_9, .slice A0_10 l0_10.length c0_10], .int .i64 x3_1] rfl (by (try simp only [List.map_toArray, List.map_cons, List.map_nil]); first | done | rfl | (simp only [List.length_drop, List.length_take]; rfl)) ?_; (with_reducible refine (plan_King.calls k2 a0_0 a0_1 a0_2 a0_3 a0_4 a0_5 a0_6 a0_7 a0_8 a0_9 _ _ l0_10 x3_1 t326 _ ?side1 ?side2 A23.out).mono ?_); (case side1 => repeat (first | exact (Kd.C_below HR0_10.out HB.out) | (with_reducible refine Kd.C_alloc ?_ _) | (with_reducible refine Kd.C_drewN ?_ _) | (with_reducible refine Kd.C_drew ?_))); (case side2 => exact HC0_10.out); rintro e w28 ⟨rfl, hb⟩; refine ⟨_, rfl, ?_⟩; have n0_ := Aside0.mk (blk_below (g := gb318) (o := .cells #[.int .i64 a0_0, .int .i64 a0_1, .int .i64 a0_2, .int .i64 a0_3, .int .i64 a0_4, .int .i64 a0_5, .int .i64 a0_6, .int .i64 a0_7, .int .i64 a0_8, .int .i64 a0_9, .slice A0_10 l0_10.length c0_10] 35 (0, 0)) (by (with_reducible repeat (first | refine blk_drewN ?_ _ | refine blk_drew ?_ | refine blk_alloc ?_ _)); exact BK318.out) hb); have n1_ := Aside0.mk (below_step (by repeat (first | (with_reducible first | exact HB.out | apply below_alloc | apply pw_below_drewN | apply below_drew1 | refine below_set ?_ GE318.out) | exact HB.out)) hb); clear BK318; clear HB; have BK318 := n0_; have HB := n1_; clear n0_ n1_; (try clear hb); (try clear hb2); (try clear hk); (try clear hi)))
        (try simp only [Act.put, List.setIfInBounds_toArray, List.set_cons_zero, List.set_cons_succ])
        go_cut [50] (fun v50 wc => ∃ (kq : Nat) (x50_23 : Bool), v50 = .bool x50_23 ∧ Aside0 (bellwetherlaw15_PlanKings.j2 kq x3_1 t326 x50_23 a0_0 a0_1 a0_2 a0_3 a0_4 a0_5 a0_6 a0_7 a0_8 a0_9 l0_10 = some r) ∧ Aside0 (kq ≤ k2) ∧ Aside0 (wc.heap[gb318]? = some (.cells #[.int .i64 a0_0, .int .i64 a0_1, .int .i64 a0_2, .int .i64 a0_3, .int .i64 a0_4, .int .i64 a0_5, .int .i64 a0_6, .int .i64 a0_7, .int .i64 a0_8, .int .i64 a0_9, (.slice A0_10 l0_10.length c0_10)] 35 (0, 0))) ∧ Aside0 (Below w.heap.size w wc))
        case first =>
         have H := HC24.out
         clear HC24
         by_cases c29 : x4_2 = 1
         ·
          rw [if_pos c29] at H
          have c29b0 : (x4_2 == 1) = true := beq_iff_eq.mpr c29
          have c29b1 : (x4_2 != 1) = false := bne_eq_false_iff_eq.mpr c29
          clear c29
          (first | rw [c29b0] | (simp only [i64_w, i32_w]; rw [c29b0]) | skip)
          by_cases c30 : t326 < 0
          ·
           rw [if_pos c30] at H
           have c30b0 : decide (t326 < 0) = true := decide_eq_true c30
           clear c30
           have H' := Aside0.mk H
           clear H
           go_wp2
           go_meet
           case rel => exact ⟨_, (true), (by first | rfl | (simp; done) | (simp [*]; done)), H', ⟨by have := HK1.out; have := HK2.out; first | omega | exact Nat.le_refl _⟩, ⟨by (with_reducible repeat (first | refine blk_drewN ?_ _ | refine blk_drew ?_ | refine blk_alloc ?_ _)); exact BK318.out⟩, ⟨by repeat (first | (with_reducible first | exact HB.out | apply below_alloc | apply pw_below_drewN | apply below_drew1 | refine below_set ?_ GE318.out) | exact HB.out)⟩⟩
          ·
           rw [if_neg c30] at H
           have c30b0 : decide (t326 < 0) = false := decide_eq_false c30
           clear c30
           have H' := Aside0.mk H
           clear H
           have hcz31_0 : w28.cell? ⟨gb318, 0, none⟩ = some (.int .i64 a0_0) := (blk_cell BK318.out 0).trans rfl
           have hcz31_1 : w28.cell? ⟨gb318, 1, none⟩ = some (.int .i64 a0_1) := (blk_cell BK318.out 1).trans rfl
           have hcz31_2 : w28.cell? ⟨gb318, 2, none⟩ = some (.int .i64 a0_2) := (blk_cell BK318.out 2).trans rfl
           have hcz31_3 : w28.cell? ⟨gb318, 3, none⟩ = some (.int .i64 a0_3) := (blk_cell BK318.out 3).trans rfl
           have hcz31_4 : w28.cell? ⟨gb318, 4, none⟩ = some (.int .i64 a0_4) := (blk_cell BK318.out 4).trans rfl
           have hcz31_5 : w28.cell? ⟨gb318, 5, none⟩ = some (.int .i64 a0_5) := (blk_cell BK318.out 5).trans rfl
           have hcz31_6 : w28.cell? ⟨gb318, 6, none⟩ = some (.int .i64 a0_6) := (blk_cell BK318.out 6).trans rfl
           have hcz31_7 : w28.cell? ⟨gb318, 7, none⟩ = some (.int .i64 a0_7) := (blk_cell BK318.out 7).trans rfl
           have hcz31_8 : w28.cell? ⟨gb318, 8, none⟩ = some (.int .i64 a0_8) := (blk_cell BK318.out 8).trans rfl
           have hcz31_9 : w28.cell? ⟨gb318, 9, none⟩ = some (.int .i64 a0_9) := (blk_cell BK318.out 9).trans rfl
           have hcz31_10 : w28.cell? ⟨gb318, 10, none⟩ = some (.slice A0_10 l0_10.length c0_10) := (blk_cell BK318.out 10).trans rfl
           have hfz31_0 := blk_frozen BK318.out 0
           have hfz31_1 := blk_frozen BK318.out 1
           have hfz31_2 := blk_frozen BK318.out 2
           have hfz31_3 := blk_frozen BK318.out 3
           have hfz31_4 := blk_frozen BK318.out 4
           have hfz31_5 := blk_frozen BK318.out 5
           have hfz31_6 := blk_frozen BK318.out 6
           have hfz31_7 := blk_frozen BK318.out 7
           have hfz31_8 := blk_frozen BK318.out 8
           have hfz31_9 := blk_frozen BK318.out 9
           have hfz31_10 := blk_frozen BK318.out 10
           go_wp2
           go_meet
           case rel => exact ⟨_, (decide (t326 ≥ a0_0)), (by first | rfl | (simp; done) | (simp [*]; done)), H', ⟨by have := HK1.out; have := HK2.out; first | omega | exact Nat.le_refl _⟩, ⟨by (with_reducible repeat (first | refine blk_drewN ?_ _ | refine blk_drew ?_ | refine blk_alloc ?_ _)); exact BK318.out⟩, ⟨by repeat (first | (with_reducible first | exact HB.out | apply below_alloc | apply pw_below_drewN | apply below_drew1 | refine below_set ?_ GE318.out) | exact HB.out)⟩⟩
         ·
          rw [if_neg c29] at H
          have c29b0 : (x4_2 == 1) = false := beq_eq_false_iff_ne.mpr c29
          have c29b1 : (x4_2 != 1) = true := bne_iff_ne.mpr c29
          (first | rw [c29b0] | (simp only [i64_w, i32_w]; rw [c29b0]) | skip)
          have H' := Aside0.mk H
          clear H
          go_wp2
          go_meet
          case rel => exact ⟨_, (true), (by first | rfl | (simp; done) | (simp [*]; done)), H', ⟨by have := HK1.out; have := HK2.out; first | omega | exact Nat.le_refl _⟩, ⟨by (with_reducible repeat (first | refine blk_drewN ?_ _ | refine blk_drew ?_ | refine blk_alloc ?_ _)); exact BK318.out⟩, ⟨by repeat (first | (with_reducible first | exact HB.out | apply below_alloc | apply pw_below_drewN | apply below_drew1 | refine below_set ?_ GE318.out) | exact HB.out)⟩⟩
        case rest =>
         clear HC24
         try clear c1
         try clear c2
         try clear p2
         try clear c3
         try clear c3b0
         try clear c3b1
         try clear p6
         try clear c8
         try clear c8b0
         try clear c12
         try clear c12b0
         try clear c14
         try clear c14b0
         try clear c14b1
         try clear c22
         try clear c24
         try clear c26
         try clear c29
         try clear c29b0
         try clear c29b1
         try clear c30
         try clear c30b0
         try clear hcz15_0
         try clear hcz15_1
         try clear hcz15_10
         try clear hcz15_2
         try clear hcz15_3
         try clear hcz15_4
         try clear hcz15_5
         try clear hcz15_6
         try clear hcz15_7
         try clear hcz15_8
         try clear hcz15_9
         try clear hcz17_0
         try clear hcz17_1
         try clear hcz17_10
         try clear hcz17_2
         try clear hcz17_3
         try clear hcz17_4
         try clear hcz17_5
         try clear hcz17_6
         try clear hcz17_7
         try clear hcz17_8
         try clear hcz17_9
         try clear hcz19_0
         try clear hcz19_1
         try clear hcz19_10
         try clear hcz19_2
         try clear hcz19_3
         try clear hcz19_4
         try clear hcz19_5
         try clear hcz19_6
         try clear hcz19_7
         try clear hcz19_8
         try clear hcz19_9
         try clear hcz21_0
         try clear hcz21_1
         try clear hcz21_10
         try clear hcz21_2
         try clear hcz21_3
         try clear hcz21_4
         try clear hcz21_5
         try clear hcz21_6
         try clear hcz21_7
         try clear hcz21_8
         try clear hcz21_9
         try clear hcz25_0
         try clear hcz25_1
         try clear hcz25_10
         try clear hcz25_2
         try clear hcz25_3
         try clear hcz25_4
         try clear hcz25_5
         try clear hcz25_6
         try clear hcz25_7
         try clear hcz25_8
         try clear hcz25_9
         try clear hcz27_0
         try clear hcz27_1
         try clear hcz27_10
         try clear hcz27_2
         try clear hcz27_3
         try clear hcz27_4
         try clear hcz27_5
         try clear hcz27_6
         try clear hcz27_7
         try clear hcz27_8
         try clear hcz27_9
         try clear hcz31_0
         try clear hcz31_1
         try clear hcz31_10
         try clear hcz31_2
         try clear hcz31_3
         try clear hcz31_4
         try clear hcz31_5
         try clear hcz31_6
         try clear hcz31_7
         try clear hcz31_8
         try clear hcz31_9
         try clear hcz5_0
         try clear hcz5_1
         try clear hcz5_10
         try clear hcz5_2
         try clear hcz5_3
         try clear hcz5_4
         try clear hcz5_5
         try clear hcz5_6
         try clear hcz5_7
         try clear hcz5_8
         try clear hcz5_9
         try clear hcz9_0
         try clear hcz9_1
         try clear hcz9_10
         try clear hcz9_2
         try clear hcz9_3
         try clear hcz9_4
         try clear hcz9_5
         try clear hcz9_6
         try clear hcz9_7
         try clear hcz9_8
         try clear hcz9_9
         try clear hfz15_0
         try clear hfz15_1
         try clear hfz15_10
         try clear hfz15_2
         try clear hfz15_3
         try clear hfz15_4
         try clear hfz15_5
         try clear hfz15_6
         try clear hfz15_7
         try clear hfz15_8
         try clear hfz15_9
         try clear hfz17_0
         try clear hfz17_1
         try clear hfz17_10
         try clear hfz17_2
         try clear hfz17_3
         try clear hfz17_4
         try clear hfz17_5
         try clear hfz17_6
         try clear hfz17_7
         try clear hfz17_8
         try clear hfz17_9
         try clear hfz19_0
         try clear hfz19_1
         try clear hfz19_10
         try clear hfz19_2
         try clear hfz19_3
         try clear hfz19_4
         try clear hfz19_5
         try clear hfz19_6
         try clear hfz19_7
         try clear hfz19_8
         try clear hfz19_9
         try clear hfz21_0
         try clear hfz21_1
         try clear hfz21_10
         try clear hfz21_2
         try clear hfz21_3
         try clear hfz21_4
         try clear hfz21_5
         try clear hfz21_6
         try clear hfz21_7
         try clear hfz21_8
         try clear hfz21_9
         try clear hfz25_0
         try clear hfz25_1
         try clear hfz25_10
         try clear hfz25_2
         try clear hfz25_3
         try clear hfz25_4
         try clear hfz25_5
         try clear hfz25_6
         try clear hfz25_7
         try clear hfz25_8
         try clear hfz25_9
         try clear hfz27_0
         try clear hfz27_1
         try clear hfz27_10
         try clear hfz27_2
         try clear hfz27_3
         try clear hfz27_4
         try clear hfz27_5
         try clear hfz27_6
         try clear hfz27_7
         try clear hfz27_8
         try clear hfz27_9
         try clear hfz31_0
         try clear hfz31_1
         try clear hfz31_10
         try clear hfz31_2
         try clear hfz31_3
         try clear hfz31_4
         try clear hfz31_5
         try clear hfz31_6
         try clear hfz31_7
         try clear hfz31_8
         try clear hfz31_9
         try clear hfz5_0
         try clear hfz5_1
         try clear hfz5_10
         try clear hfz5_2
         try clear hfz5_3
         try clear hfz5_4
         try clear hfz5_5
         try clear hfz5_6
         try clear hfz5_7
         try clear hfz5_8
         try clear hfz5_9
         try clear hfz9_0
         try clear hfz9_1
         try clear hfz9_10
         try clear hfz9_2
         try clear hfz9_3
         try clear hfz9_4
         try clear hfz9_5
         try clear hfz9_6
         try clear hfz9_7
         try clear hfz9_8
         try clear hfz9_9
         try clear p2
         obtain ⟨kq, x50_23, rfl, HA, HJ23, BK318, HB⟩ := hcut
         cases kq with
         | zero => exact absurd HA.out (by simp [bellwetherlaw15_PlanKings.j2])
         | succ kj23 =>
          have H := HA.out
          clear HA
          simp only [bellwetherlaw15_PlanKings.j2] at H
          by_cases c32 : x50_23 = true
          ·
           subst c32
           have H1 : (some false) = some r := by rw [if_pos rfl] at H; exact H
           clear H
           have H := H1
           clear H1
           (have H3_ := Option.some.inj H; have H4_ := hT.out; rw [← H3_] at H4_; exact absurd H4_ (by decide))
          ·
           replace c32 := Bool.eq_false_iff.mpr c32
           subst c32
           have H1 : (bellwetherlaw15_PlanKings.l2 kj23 x3_1 t326 0 a0_0 a0_1 a0_2 a0_3 a0_4 a0_5 a0_6 a0_7 a0_8 a0_9 l0_10) = some r := by rw [if_neg (show ¬ (false = true) by decide)] at H; exact H
           clear H
           have H := H1
           clear H1
           have H' := Aside0.mk H
           clear H
           go_wp2
           go_loopg [7] kj23 (fun kq v7 w' => ∃ (x7_4 : Int), v7 = .int .i64 x7_4 ∧ Aside0 (bellwetherlaw15_PlanKings.l2 kq x3_1 t326 x7_4 a0_0 a0_1 a0_2 a0_3 a0_4 a0_5 a0_6 a0_7 a0_8 a0_9 l0_10 = some r) ∧ Aside0 (kq ≤ kj23) ∧ Aside0 (w'.heap[gb318]? = some (.cells #[.int .i64 a0_0, .int .i64 a0_1, .int .i64 a0_2, .int .i64 a0_3, .int .i64 a0_4, .int .i64 a0_5, .int .i64 a0_6, .int .i64 a0_7, .int .i64 a0_8, .int .i64 a0_9, (.slice A0_10 l0_10.length c0_10)] 35 (0, 0))) ∧ Aside0 (Below w.heap.size w w'))
           case atStart => exact ⟨(0), (by first | rfl | (simp; done) | (simp [*]; done)), H', ⟨Nat.le_refl _⟩, ⟨by (with_reducible repeat (first | refine blk_drewN ?_ _ | refine blk_drew ?_ | refine blk_alloc ?_ _)); exact BK318.out⟩, ⟨by repeat (first | (with_reducible first | exact HB.out | apply below_alloc | apply pw_below_drewN | apply below_drew1 | refine below_set ?_ GE318.out) | exact HB.out)⟩⟩
           case round =>
            clear H'
            try clear c1
            try clear c2
            try clear p2
            try clear c3
            try clear c3b0
            try clear c3b1
            try clear p6
            try clear c8
            try clear c8b0
            try clear c12
            try clear c12b0
            try clear c14
            try clear c14b0
            try clear c14b1
            try clear c22
            try clear c24
            try clear c26
            try clear c29
            try clear c29b0
            try clear c29b1
            try clear c30
            try clear c30b0
            try clear c32
            try clear hcz15_0
            try clear hcz15_1
            try clear hcz15_10
            try clear hcz15_2
            try clear hcz15_3
            try clear hcz15_4
            try clear hcz15_5
            try clear hcz15_6
            try clear hcz15_7
            try clear hcz15_8
            try clear hcz15_9
            try clear hcz17_0
            try clear hcz17_1
            try clear hcz17_10
            try clear hcz17_2
            try clear hcz17_3
            try clear hcz17_4
            try clear hcz17_5
            try clear hcz17_6
            try clear hcz17_7
            try clear hcz17_8
            try clear hcz17_9
            try clear hcz19_0
            try clear hcz19_1
            try clear hcz19_10
            try clear hcz19_2
            try clear hcz19_3
            try clear hcz19_4
            try clear hcz19_5
            try clear hcz19_6
            try clear hcz19_7
            try clear hcz19_8
            try clear hcz19_9
            try clear hcz21_0
            try clear hcz21_1
            try clear hcz21_10
            try clear hcz21_2
            try clear hcz21_3
            try clear hcz21_4
            try clear hcz21_5
            try clear hcz21_6
            try clear hcz21_7
            try clear hcz21_8
            try clear hcz21_9
            try clear hcz25_0
            try clear hcz25_1
            try clear hcz25_10
            try clear hcz25_2
            try clear hcz25_3
            try clear hcz25_4
            try clear hcz25_5
            try clear hcz25_6
            try clear hcz25_7
            try clear hcz25_8
            try clear hcz25_9
            try clear hcz27_0
            try clear hcz27_1
            try clear hcz27_10
            try clear hcz27_2
            try clear hcz27_3
            try clear hcz27_4
            try clear hcz27_5
            try clear hcz27_6
            try clear hcz27_7
            try clear hcz27_8
            try clear hcz27_9
            try clear hcz31_0
            try clear hcz31_1
            try clear hcz31_10
            try clear hcz31_2
            try clear hcz31_3
            try clear hcz31_4
            try clear hcz31_5
            try clear hcz31_6
            try clear hcz31_7
            try clear hcz31_8
            try clear hcz31_9
            try clear hcz5_0
            try clear hcz5_1
            try clear hcz5_10
            try clear hcz5_2
            try clear hcz5_3
            try clear hcz5_4
            try clear hcz5_5
            try clear hcz5_6
            try clear hcz5_7
            try clear hcz5_8
            try clear hcz5_9
            try clear hcz9_0
            try clear hcz9_1
            try clear hcz9_10
            try clear hcz9_2
            try clear hcz9_3
            try clear hcz9_4
            try clear hcz9_5
            try clear hcz9_6
            try clear hcz9_7
            try clear hcz9_8
            try clear hcz9_9
            try clear hfz15_0
            try clear hfz15_1
            try clear hfz15_10
            try clear hfz15_2
            try clear hfz15_3
            try clear hfz15_4
            try clear hfz15_5
            try clear hfz15_6
            try clear hfz15_7
            try clear hfz15_8
            try clear hfz15_9
            try clear hfz17_0
            try clear hfz17_1
            try clear hfz17_10
            try clear hfz17_2
            try clear hfz17_3
            try clear hfz17_4
            try clear hfz17_5
            try clear hfz17_6
            try clear hfz17_7
            try clear hfz17_8
            try clear hfz17_9
            try clear hfz19_0
            try clear hfz19_1
            try clear hfz19_10
            try clear hfz19_2
            try clear hfz19_3
            try clear hfz19_4
            try clear hfz19_5
            try clear hfz19_6
            try clear hfz19_7
            try clear hfz19_8
            try clear hfz19_9
            try clear hfz21_0
            try clear hfz21_1
            try clear hfz21_10
            try clear hfz21_2
            try clear hfz21_3
            try clear hfz21_4
            try clear hfz21_5
            try clear hfz21_6
            try clear hfz21_7
            try clear hfz21_8
            try clear hfz21_9
            try clear hfz25_0
            try clear hfz25_1
            try clear hfz25_10
            try clear hfz25_2
            try clear hfz25_3
            try clear hfz25_4
            try clear hfz25_5
            try clear hfz25_6
            try clear hfz25_7
            try clear hfz25_8
            try clear hfz25_9
            try clear hfz27_0
            try clear hfz27_1
            try clear hfz27_10
            try clear hfz27_2
            try clear hfz27_3
            try clear hfz27_4
            try clear hfz27_5
            try clear hfz27_6
            try clear hfz27_7
            try clear hfz27_8
            try clear hfz27_9
            try clear hfz31_0
            try clear hfz31_1
            try clear hfz31_10
            try clear hfz31_2
            try clear hfz31_3
            try clear hfz31_4
            try clear hfz31_5
            try clear hfz31_6
            try clear hfz31_7
            try clear hfz31_8
            try clear hfz31_9
            try clear hfz5_0
            try clear hfz5_1
            try clear hfz5_10
            try clear hfz5_2
            try clear hfz5_3
            try clear hfz5_4
            try clear hfz5_5
            try clear hfz5_6
            try clear hfz5_7
            try clear hfz5_8
            try clear hfz5_9
            try clear hfz9_0
            try clear hfz9_1
            try clear hfz9_10
            try clear hfz9_2
            try clear hfz9_3
            try clear hfz9_4
            try clear hfz9_5
            try clear hfz9_6
            try clear hfz9_7
            try clear hfz9_8
            try clear hfz9_9
            try clear p2
            try clear p6
            obtain ⟨x7_4, rfl, HA, HK4, BK318, HB⟩ := hrel
            cases gk with
            | zero => exact absurd HA.out (by simp [bellwetherlaw15_PlanKings.l2])
            | succ k4 =>
             have H := HA.out
             clear HA
             simp only [bellwetherlaw15_PlanKings.l2] at H
             by_cases c33 : x7_4 < x3_1
             ·
              rw [if_pos c33] at H
              have c33b0 : decide (x7_4 < x3_1) = true := decide_eq_true c33
              clear c33
              replace H := Option.bind_eq_some_iff.mp H
              obtain ⟨t327, A340, H⟩ := H
              replace H : (if ((t327 == t326) != ((wrap64 (Int.tdiv x7_4 3)) == (wrap64 (Int.tdiv x3_1 3)))) = true then (some false) else (bellwetherlaw15_PlanKings.l2 k4 x3_1 t326 (wrap64 (x7_4 + 1)) a0_0 a0_1 a0_2 a0_3 a0_4 a0_5 a0_6 a0_7 a0_8 a0_9 l0_10)) = some r := H
              have A34 := Aside0.mk A340
              clear A340
              by_cases c35 : ((t327 == t326) != ((wrap64 (Int.tdiv x7_4 3)) == (wrap64 (Int.tdiv x3_1 3)))) = true
              ·
               rw [if_pos c35] at H
               have c35b0 : ((t327 == t326) != ((wrap64 (Int.tdiv x7_4 3)) == (wrap64 (Int.tdiv x3_1 3)))) = true := c35
               (try (have c35b1 : decide ((t327 == t326) = ((wrap64 (Int.tdiv x7_4 3)) == (wrap64 (Int.tdiv x3_1 3)))) = false := by simpa using c35))
               (try (have c35b2 : ((t327 == t326) == ((wrap64 (Int.tdiv x7_4 3)) == (wrap64 (Int.tdiv x3_1 3)))) = false := by simpa using c35))
               (try (have c35b3 : ¬ ((t327 == t326) = ((wrap64 (Int.tdiv x7_4 3)) == (wrap64 (Int.tdiv x3_1 3)))) := by simpa using c35))
               clear c35
               (have H3_ := Option.some.inj H; have H4_ := hT.out; rw [← H3_] at H4_; exact absurd H4_ (by decide))
              ·
               rw [if_neg c35] at H
               have c35b0 : ((t327 == t326) != ((wrap64 (Int.tdiv x7_4 3)) == (wrap64 (Int.tdiv x3_1 3)))) = false := by simpa using c35
               (try (have c35b1 : decide ((t327 == t326) = ((wrap64 (Int.tdiv x7_4 3)) == (wrap64 (Int.tdiv x3_1 3)))) = true := by simpa using c35))
               (try (have c35b2 : ((t327 == t326) == ((wrap64 (Int.tdiv x7_4 3)) == (wrap64 (Int.tdiv x3_1 3)))) = true := by simpa using c35))
               clear c35
               have H' := Aside0.mk H
               clear H
               have hcz36_0 : wr.cell? ⟨gb318, 0, none⟩ = some (.int .i64 a0_0) := (blk_cell BK318.out 0).trans rfl
               have hcz36_1 : wr.cell? ⟨gb318, 1, none⟩ = some (.int .i64 a0_1) := (blk_cell BK318.out 1).trans rfl
               have hcz36_2 : wr.cell? ⟨gb318, 2, none⟩ = some (.int .i64 a0_2) := (blk_cell BK318.out 2).trans rfl
               have hcz36_3 : wr.cell? ⟨gb318, 3, none⟩ = some (.int .i64 a0_3) := (blk_cell BK318.out 3).trans rfl
               have hcz36_4 : wr.cell? ⟨gb318, 4, none⟩ = some (.int .i64 a0_4) := (blk_cell BK318.out 4).trans rfl
               have hcz36_5 : wr.cell? ⟨gb318, 5, none⟩ = some (.int .i64 a0_5) := (blk_cell BK318.out 5).trans rfl
               have hcz36_6 : wr.cell? ⟨gb318, 6, none⟩ = some (.int .i64 a0_6) := (blk_cell BK318.out 6).trans rfl
               have hcz36_7 : wr.cell? ⟨gb318, 7, none⟩ = some (.int .i64 a0_7) := (blk_cell BK318.out 7).trans rfl
               have hcz36_8 : wr.cell? ⟨gb318, 8, none⟩ = some (.int .i64 a0_8) := (blk_cell BK318.out 8).trans rfl
               have hcz36_9 : wr.cell? ⟨gb318, 9, none⟩ = some (.int .i64 a0_9) := (blk_cell BK318.out 9).trans rfl
               have hcz36_10 : wr.cell? ⟨gb318, 10, none⟩ = some (.slice A0_10 l0_10.length c0_10) := (blk_cell BK318.out 10).trans rfl
               have hfz36_0 := blk_frozen BK318.out 0
               have hfz36_1 := blk_frozen BK318.out 1
               have hfz36_2 := blk_frozen BK318.out 2
               have hfz36_3 := blk_frozen BK318.out 3
               have hfz36_4 := blk_frozen BK318.out 4
               have hfz36_5 := blk_frozen BK318.out 5
               have hfz36_6 := blk_frozen BK318.out 6
               have hfz36_7 := blk_frozen BK318.out 7
               have hfz36_8 := blk_frozen BK318.out 8
               have hfz36_9 := blk_frozen BK318.out 9
               have hfz36_10 := blk_frozen BK318.out 10
               go_wp2_with (first | ((with_reducible refine gate_callee (f := 34) rfl ?_); refine goesL_ (some 58) rfl rfl Try.func34 (by kernel_rfl) rfl #[.agg #[.int .i64 a0_0, .int .i64 a0_1, .int .i64 a0_2, .int .i64 a0_3, .int .i64 a0_4, .int .i64 a0_5, .int .i64 a0_6, .int .i64 a0_7, .int .i64 a0_8, .int .i64 a0_9, .slice A0_10 l0_10.length c0_10], .int .i64 x7_4] rfl (by (try simp only [List.map_toArray, List.map_cons, List.map_nil]); first | done | rfl | (simp only [List.length_drop, List.length_take]; rfl)) ?_; (with_reducible refine (plan_King.calls k4 a0_0 a0_1 a0_2 a0_3 a0_4 a0_5 a0_6 a0_7 a0_8 a0_9 _ _ l0_10 x7_4 t327 _ ?side1 ?side2 A34.out).mono ?_); (case side1 => repeat (first | exact (Kd.C_below HR0_10.out HB.out) | (with_reducible refine Kd.C_alloc ?_ _) | (with_reducible refine Kd.C_drewN ?_ _) | (with_reducible refine Kd.C_drew ?_))); (case side2 => exact HC0_10.out); rintro e w37 ⟨rfl, hb⟩; refine ⟨_, rfl, ?_⟩; have n0_ := Aside0.mk (blk_below (g := gb318) (o := .cells #[.int .i64 a0_0, .int .i64 a0_1, .int .i64 a0_2, .int .i64 a0_3, .int .i64 a0_4, .int .i64 a0_5, .int .i64 a0_6, .int .i64 a0_7, .int .i64 a0_8, .int .i64 a0_9, .slice A0_10 l0_10.length c0_10] 35 (0, 0)) (by (with_reducible repeat (first | refine blk_drewN ?_ _ | refine blk_drew ?_ | refine blk_alloc ?_ _)); exact BK318.out) hb); have n1_ := Aside0.mk (below_step (by repeat (first | (with_reducible first | exact HB.out | apply below_alloc | apply pw_below_drewN | apply below_drew1 | refine below_set ?_ GE318.out) | exact HB.out)) hb); clear BK318; clear HB; have BK318 := n0_; have HB := n1_; clear n0_ n1_; (try clear hb); (try clear hb2); (try clear hk); (try clear hi)))
               go_roundg k4
               case measure => have := HK1.out; have := HK2.out; have := HJ23.out; have := HK4.out; omega
               case rel => exact ⟨(wrap64 (x7_4 + 1)), (by first | rfl | (simp; done) | (simp [*]; done)), H', ⟨by have := HK1.out; have := HK2.out; have := HJ23.out; have := HK4.out; omega⟩, ⟨by (with_reducible repeat (first | refine blk_drewN ?_ _ | refine blk_drew ?_ | refine blk_alloc ?_ _)); exact BK318.out⟩, ⟨by repeat (first | (with_reducible first | exact HB.out | apply below_alloc | apply pw_below_drewN | apply below_drew1 | refine below_set ?_ GE318.out) | exact HB.out)⟩⟩
             ·
              rw [if_neg c33] at H
              have c33b0 : decide (x7_4 < x3_1) = false := decide_eq_false c33
              clear c33
              have H' := Aside0.mk H
              clear H
              go_wp2
              go_roundg k4
              case measure => have := HK1.out; have := HK2.out; have := HJ23.out; have := HK4.out; omega
              case rel => exact ⟨(wrap64 (x3_1 + 1)), (by first | rfl | (simp; done) | (simp [*]; done)), H', ⟨by have := HK1.out; have := HK2.out; have := HJ23.out; have := HK4.out; omega⟩, ⟨by (with_reducible repeat (first | refine blk_drewN ?_ _ | refine blk_drew ?_ | refine blk_alloc ?_ _)); exact BK318.out⟩, ⟨by repeat (first | (with_reducible first | exact HB.out | apply below_alloc | apply pw_below_drewN | apply below_drew1 | refine below_set ?_ GE318.out) | exact HB.out)⟩⟩
    ·
     rw [if_neg c8] at H
     have c8b0 : decide (x3_1 < t322) = false := decide_eq_false c8
     clear c8
     replace H := Option.bind_eq_some_iff.mp H
     obtain ⟨t323, A380, H⟩ := H
     replace H : (some t323) = some r := H
     have A38 := Aside0.mk A380
     clear A380
     obtain rfl := Option.some.inj H
     have hcz39_0 : wr.cell? ⟨gb318, 0, none⟩ = some (.int .i64 a0_0) := (blk_cell BK318.out 0).trans rfl
     have hcz39_1 : wr.cell? ⟨gb318, 1, none⟩ = some (.int .i64 a0_1) := (blk_cell BK318.out 1).trans rfl
     have hcz39_2 : wr.cell? ⟨gb318, 2, none⟩ = some (.int .i64 a0_2) := (blk_cell BK318.out 2).trans rfl
     have hcz39_3 : wr.cell? ⟨gb318, 3, none⟩ = some (.int .i64 a0_3) := (blk_cell BK318.out 3).trans rfl
     have hcz39_4 : wr.cell? ⟨gb318, 4, none⟩ = some (.int .i64 a0_4) := (blk_cell BK318.out 4).trans rfl
     have hcz39_5 : wr.cell? ⟨gb318, 5, none⟩ = some (.int .i64 a0_5) := (blk_cell BK318.out 5).trans rfl
     have hcz39_6 : wr.cell? ⟨gb318, 6, none⟩ = some (.int .i64 a0_6) := (blk_cell BK318.out 6).trans rfl
     have hcz39_7 : wr.cell? ⟨gb318, 7, none⟩ = some (.int .i64 a0_7) := (blk_cell BK318.out 7).trans rfl
     have hcz39_8 : wr.cell? ⟨gb318, 8, none⟩ = some (.int .i64 a0_8) := (blk_cell BK318.out 8).trans rfl
     have hcz39_9 : wr.cell? ⟨gb318, 9, none⟩ = some (.int .i64 a0_9) := (blk_cell BK318.out 9).trans rfl
     have hcz39_10 : wr.cell? ⟨gb318, 10, none⟩ = some (.slice A0_10 l0_10.length c0_10) := (blk_cell BK318.out 10).trans rfl
     have hfz39_0 := blk_frozen BK318.out 0
     have hfz39_1 := blk_frozen BK318.out 1
     have hfz39_2 := blk_frozen BK318.out 2
     have hfz39_3 := blk_frozen BK318.out 3
     have hfz39_4 := blk_frozen BK318.out 4
     have hfz39_5 := blk_frozen BK318.out 5
     have hfz39_6 := blk_frozen BK318.out 6
     have hfz39_7 := blk_frozen BK318.out 7
     have hfz39_8 := blk_frozen BK318.out 8
     have hfz39_9 := blk_frozen BK318.out 9
     have hfz39_10 := blk_frozen BK318.out 10
     go_wp2_with (first | ((with_reducible refine gate_callee (f := 24) rfl ?_); refine goesL_ (some 19) rfl rfl Try.func24 (by kernel_rfl) rfl #[.agg #[.int .i64 a0_0, .int .i64 a0_1, .int .i64 a0_2, .int .i64 a0_3, .int .i64 a0_4, .int .i64 a0_5, .int .i64 a0_6, .int .i64 a0_7, .int .i64 a0_8, .int .i64 a0_9, .slice A0_10 l0_10.length c0_10]] rfl (by (try simp only [List.map_toArray, List.map_cons, List.map_nil]); first | done | rfl | (simp only [List.length_drop, List.length_take]; rfl)) ?_; (with_reducible refine (bellwetherref03_Rounds.calls k1 a0_0 a0_1 a0_2 a0_3 a0_4 a0_5 a0_6 a0_7 a0_8 a0_9 _ _ l0_10 t322 _ ?side1 ?side2 A7.out).mono ?_); (case side1 => repeat (first | exact (Kd.C_below HR0_10.out HB.out) | (with_reducible refine Kd.C_alloc ?_ _) | (with_reducible refine Kd.C_drewN ?_ _) | (with_reducible refine Kd.C_drew ?_))); (case side2 => exact HC0_10.out); rintro e w40 ⟨rfl, hb⟩; refine ⟨_, rfl, ?_⟩; have n0_ := Aside0.mk (blk_below (g := gb318) (o := .cells #[.int .i64 a0_0, .int .i64 a0_1, .int .i64 a0_2, .int .i64 a0_3, .int .i64 a0_4, .int .i64 a0_5, .int .i64 a0_6, .int .i64 a0_7, .int .i64 a0_8, .int .i64 a0_9, .slice A0_10 l0_10.length c0_10] 35 (0, 0)) (by (with_reducible repeat (first | refine blk_drewN ?_ _ | refine blk_drew ?_ | refine blk_alloc ?_ _)); exact BK318.out) hb); have n1_ := Aside0.mk (below_step (by repeat (first | (with_reducible first | exact HB.out | apply below_alloc | apply pw_below_drewN | apply below_drew1 | refine below_set ?_ GE318.out) | exact HB.out)) hb); clear BK318; clear HB; have BK318 := n0_; have HB := n1_; clear n0_ n1_; (try clear hb); (try clear hb2); (try clear hk); (try clear hi)) | ((with_reducible refine gate_callee (f := 36) rfl ?_); refine goesL_ (some 67) rfl rfl Try.func36 (by kernel_rfl) rfl #[] rfl (by (try simp only [List.map_toArray, List.map_cons, List.map_nil]); first | done | rfl | (simp only [List.length_drop, List.length_take]; rfl)) ?_; (with_reducible refine (bellwetherlaw15_known.calls k1  t323 _ A38.out).mono ?_); rintro e w41 ⟨rfl, hb⟩; refine ⟨_, rfl, ?_⟩; have n0_ := Aside0.mk (blk_below (g := gb318) (o := .cells #[.int .i64 a0_0, .int .i64 a0_1, .int .i64 a0_2, .int .i64 a0_3, .int .i64 a0_4, .int .i64 a0_5, .int .i64 a0_6, .int .i64 a0_7, .int .i64 a0_8, .int .i64 a0_9, .slice A0_10 l0_10.length c0_10] 35 (0, 0)) (by (with_reducible repeat (first | refine blk_drewN ?_ _ | refine blk_drew ?_ | refine blk_alloc ?_ _)); exact BK318.out) hb); have n1_ := Aside0.mk (below_step (by repeat (first | (with_reducible first | exact HB.out | apply below_alloc | apply pw_below_drewN | apply below_drew1 | refine below_set ?_ GE318.out) | exact HB.out)) hb); clear BK318; clear HB; have BK318 := n0_; have HB := n1_; clear n0_ n1_; (try clear hb); (try clear hb2); (try clear hk); (try clear hi)))
     go_ret
     exact ⟨by first | rfl | (simp [errW_none, errW_some] <;> rfl) | (simp [*, errW_none, errW_some] <;> rfl), by repeat (first | (with_reducible first | exact HB.out | apply below_alloc | apply pw_below_drewN | apply below_drew1 | refine below_set ?_ GE318.out) | exact HB.out)⟩
 ·
  rw [if_neg c3] at H
  have c3b0 : (t319 == 0) = false := beq_eq_false_iff_ne.mpr c3
  have c3b1 : (t319 != 0) = true := bne_iff_ne.mpr c3
  replace H := Option.bind_eq_some_iff.mp H
  obtain ⟨t320, A420, H⟩ := H
  replace H : (if t320 = (-1) then ((bellwetherlaw15_known.f k).bind fun t321 => (some t321)) else (some false)) = some r := H
  have A42 := Aside0.mk A420
  clear A420
  by_cases c43 : t320 = (-1)
  ·
   rw [if_pos c43] at H
   have c43b0 : (t320 == (-1)) = true := beq_iff_eq.mpr c43
   have c43b1 : (t320 != (-1)) = false := bne_eq_false_iff_eq.mpr c43
   clear c43
   replace H := Option.bind_eq_some_iff.mp H
   obtain ⟨t321, A440, H⟩ := H
   replace H : (some t321) = some r := H
   have A44 := Aside0.mk A440
   clear A440
   obtain rfl := Option.some.inj H
   go_enter Try.func12, Try.ntmps12
   go_wp2_with (first | ((with_reducible refine gate_dst (N := 1) rfl ?_); refine box_event ?hg (N := 1) ?hd (cs := #[.int .i64 a0_0, .int .i64 a0_1, .int .i64 a0_2, .int .i64 a0_3, .int .i64 a0_4, .int .i64 a0_5, .int .i64 a0_6, .int .i64 a0_7, .int .i64 a0_8, .int .i64 a0_9, .slice A0_10 l0_10.length c0_10]) (t := 35) ?hr ?_; (case hd => rfl); (case hg => rfl); (case hr => first | (go_simp; done) | (go_simp; rfl)); intro gb318 hg w45 hbox hb; have n0_ := Aside0.mk (below_step (by repeat (first | (with_reducible first | exact HB.out | apply below_alloc | apply pw_below_drewN | apply below_drew1) | exact HB.out)) hb); have n1_ := Aside0.mk (hbox); have n2_ := Aside0.mk ((by rw [hg]; exact (below_size (by repeat (first | (with_reducible first | exact HB.out | apply below_alloc | apply pw_below_drewN | apply below_drew1) | exact HB.out))) : w.heap.size ≤ gb318)); have n3_ := Aside0.mk ((by rw [hg]; exact (below_size (by repeat (first | (with_reducible first | exact HB.out | apply below_alloc | apply pw_below_drewN | apply below_drew1) | exact HB.out))) : w.heap.size ≤ gb318)); clear HB; have HB := n0_; have BK318 := n1_; have GW318 := n2_; have GE318 := n3_; clear n0_ n1_ n2_ n3_; clear hb hbox hg; have hcz46_0 : w45.cell? ⟨gb318, 0, none⟩ = some (.int .i64 a0_0) := (blk_cell BK318.out 0).trans rfl; have hcz46_1 : w45.cell? ⟨gb318, 1, none⟩ = some (.int .i64 a0_1) := (blk_cell BK318.out 1).trans rfl; have hcz46_2 : w45.cell? ⟨gb318, 2, none⟩ = some (.int .i64 a0_2) := (blk_cell BK318.out 2).trans rfl; have hcz46_3 : w45.cell? ⟨gb318, 3, none⟩ = some (.int .i64 a0_3) := (blk_cell BK318.out 3).trans rfl; have hcz46_4 : w45.cell? ⟨gb318, 4, none⟩ = some (.int .i64 a0_4) := (blk_cell BK318.out 4).trans rfl; have hcz46_5 : w45.cell? ⟨gb318, 5, none⟩ = some (.int .i64 a0_5) := (blk_cell BK318.out 5).trans rfl; have hcz46_6 : w45.cell? ⟨gb318, 6, none⟩ = some (.int .i64 a0_6) := (blk_cell BK318.out 6).trans rfl; have hcz46_7 : w45.cell? ⟨gb318, 7, none⟩ = some (.int .i64 a0_7) := (blk_cell BK318.out 7).trans rfl; have hcz46_8 : w45.cell? ⟨gb318, 8, none⟩ = some (.int .i64 a0_8) := (blk_cell BK318.out 8).trans rfl; have hcz46_9 : w45.cell? ⟨gb318, 9, none⟩ = some (.int .i64 a0_9) := (blk_cell BK318.out 9).trans rfl; have hcz46_10 : w45.cell? ⟨gb318, 10, none⟩ = some (.slice A0_10 l0_10.length c0_10) := (blk_cell BK318.out 10).trans rfl; have hfz46_0 := blk_frozen BK318.out 0; have hfz46_1 := blk_frozen BK318.out 1; have hfz46_2 := blk_frozen BK318.out 2; have hfz46_3 := blk_frozen BK318.out 3; have hfz46_4 := blk_frozen BK318.out 4; have hfz46_5 := blk_frozen BK318.out 5; have hfz46_6 := blk_frozen BK318.out 6; have hfz46_7 := blk_frozen BK318.out 7; have hfz46_8 := blk_frozen BK318.out 8; have hfz46_9 := blk_frozen BK318.out 9; have hfz46_10 := blk_frozen BK318.out 10) | ((with_reducible refine gate_callee (f := 22) rfl ?_); refine goesL_ (some 9) rfl rfl Try.func22 (by kernel_rfl) rfl #[.agg #[.int .i64 a0_0, .int .i64 a0_1, .int .i64 a0_2, .int .i64 a0_3, .int .i64 a0_4, .int .i64 a0_5, .int .i64 a0_6, .int .i64 a0_7, .int .i64 a0_8, .int .i64 a0_9, .slice A0_10 l0_10.length c0_10]] rfl (by (try simp only [List.map_toArray, List.map_cons, List.map_nil]); first | done | rfl | (simp only [List.length_drop, List.length_take]; rfl)) ?_; (with_reducible refine (bellwetherref03_Plain.calls k a0_0 a0_1 a0_2 a0_3 a0_4 a0_5 a0_6 a0_7 a0_8 a0_9 _ _ l0_10 t319 _ ?side1 ?side2 A2.out).mono ?_); (case side1 => repeat (first | exact (Kd.C_below HR0_10.out HB.out) | (with_reducible refine Kd.C_alloc ?_ _) | (with_reducible refine Kd.C_drewN ?_ _) | (with_reducible refine Kd.C_drew ?_))); (case side2 => exact HC0_10.out); rintro e w47 ⟨rfl, hb⟩; refine ⟨_, rfl, ?_⟩; have n0_ := Aside0.mk (blk_below (g := gb318) (o := .cells #[.int .i64 a0_0, .int .i64 a0_1, .int .i64 a0_2, .int .i64 a0_3, .int .i64 a0_4, .int .i64 a0_5, .int .i64 a0_6, .int .i64 a0_7, .int .i64 a0_8, .int .i64 a0_9, .slice A0_10 l0_10.length c0_10] 35 (0, 0)) (by (with_reducible repeat (first | refine blk_drewN ?_ _ | refine blk_drew ?_ | refine blk_alloc ?_ _)); exact BK318.out) hb); have n1_ := Aside0.mk (below_step (by repeat (first | (with_reducible first | exact HB.out | apply below_alloc | apply pw_below_drewN | apply below_drew1 | refine below_set ?_ GE318.out) | exact HB.out)) hb); clear BK318; clear HB; have BK318 := n0_; have HB := n1_; clear n0_ n1_; (try clear hb); (try clear hb2); (try clear hk); (try clear hi); have hcz48_0 : w47.cell? ⟨gb318, 0, none⟩ = some (.int .i64 a0_0) := (blk_cell BK318.out 0).trans rfl; have hcz48_1 : w47.cell? ⟨gb318, 1, none⟩ = some (.int .i64 a0_1) := (blk_cell BK318.out 1).trans rfl; have hcz48_2 : w47.cell? ⟨gb318, 2, none⟩ = some (.int .i64 a0_2) := (blk_cell BK318.out 2).trans rfl; have hcz48_3 : w47.cell? ⟨gb318, 3, none⟩ = some (.int .i64 a0_3) := (blk_cell BK318.out 3).trans rfl; have hcz48_4 : w47.cell? ⟨gb318, 4, none⟩ = some (.int .i64 a0_4) := (blk_cell BK318.out 4).trans rfl; have hcz48_5 : w47.cell? ⟨gb318, 5, none⟩ = some (.int .i64 a0_5) := (blk_cell BK318.out 5).trans rfl; have hcz48_6 : w47.cell? ⟨gb318, 6, none⟩ = some (.int .i64 a0_6) := (blk_cell BK318.out 6).trans rfl; have hcz48_7 : w47.cell? ⟨gb318, 7, none⟩ = some (.int .i64 a0_7) := (blk_cell BK318.out 7).trans rfl; have hcz48_8 : w47.cell? ⟨gb318, 8, none⟩ = some (.int .i64 a0_8) := (blk_cell BK318.out 8).trans rfl; have hcz48_9 : w47.cell? ⟨gb318, 9, none⟩ = some (.int .i64 a0_9) := (blk_cell BK318.out 9).trans rfl; have hcz48_10 : w47.cell? ⟨gb318, 10, none⟩ = some (.slice A0_10 l0_10.length c0_10) := (blk_cell BK318.out 10).trans rfl; have hfz48_0 := blk_frozen BK318.out 0; have hfz48_1 := blk_frozen BK318.out 1; have hfz48_2 := blk_frozen BK318.out 2; have hfz48_3 := blk_frozen BK318.out 3; have hfz48_4 := blk_frozen BK318.out 4; have hfz48_5 := blk_frozen BK318.out 5; have hfz48_6 := blk_frozen BK318.out 6; have hfz48_7 := blk_frozen BK318.out 7; have hfz48_8 := blk_frozen BK318.out 8; have hfz48_9 := blk_frozen BK318.out 9; have hfz48_10 := blk_frozen BK318.out 10) | ((with_reducible refine gate_callee (f := 34) rfl ?_); refine goesL_ (some 12) rfl rfl Try.func34 (by kernel_rfl) rfl #[.agg #[.int .i64 a0_0, .int .i64 a0_1, .int .i64 a0_2, .int .i64 a0_3, .int .i64 a0_4, .int .i64 a0_5, .int .i64 a0_6, .int .i64 a0_7, .int .i64 a0_8, .int .i64 a0_9, .slice A0_10 l0_10.length c0_10], .int .i64 0] rfl (by (try simp only [List.map_toArray, List.map_cons, List.map_nil]); first | done | rfl | (simp only [List.length_drop, List.length_take]; rfl)) ?_; (with_reducible refine (plan_King.calls k a0_0 a0_1 a0_2 a0_3 a0_4 a0_5 a0_6 a0_7 a0_8 a0_9 _ _ l0_10 0 t320 _ ?side1 ?side2 A42.out).mono ?_); (case side1 => repeat (first | exact (Kd.C_below HR0_10.out HB.out) | (with_reducible refine Kd.C_alloc ?_ _) | (with_reducible refine Kd.C_drewN ?_ _) | (with_reducible refine Kd.C_drew ?_))); (case side2 => exact HC0_10.out); rintro e w49 ⟨rfl, hb⟩; refine ⟨_, rfl, ?_⟩; have n0_ := Aside0.mk (blk_below (g := gb318) (o := .cells #[.int .i64 a0_0, .int .i64 a0_1, .int .i64 a0_2, .int .i64 a0_3, .int .i64 a0_4, .int .i64 a0_5, .int .i64 a0_6, .int .i64 a0_7, .int .i64 a0_8, .int .i64 a0_9, .slice A0_10 l0_10.length c0_10] 35 (0, 0)) (by (with_reducible repeat (first | refine blk_drewN ?_ _ | refine blk_drew ?_ | refine blk_alloc ?_ _)); exact BK318.out) hb); have n1_ := Aside0.mk (below_step (by repeat (first | (with_reducible first | exact HB.out | apply below_alloc | apply pw_below_drewN | apply below_drew1 | refine below_set ?_ GE318.out) | exact HB.out)) hb); clear BK318; clear HB; have BK318 := n0_; have HB := n1_; clear n0_ n1_; (try clear hb); (try clear hb2); (try clear hk); (try clear hi)) | (go_at_call 36; (with_reducible refine (bellwetherlaw15_known.calls k  t321 _ A44.out).mono ?_); rintro e w50 ⟨rfl, hb⟩; have n0_ := Aside0.mk (blk_below (g := gb318) (o := .cells #[.int .i64 a0_0, .int .i64 a0_1, .int .i64 a0_2, .int .i64 a0_3, .int .i64 a0_4, .int .i64 a0_5, .int .i64 a0_6, .int .i64 a0_7, .int .i64 a0_8, .int .i64 a0_9, .slice A0_10 l0_10.length c0_10] 35 (0, 0)) (by (with_reducible repeat (first | refine blk_drewN ?_ _ | refine blk_drew ?_ | refine blk_alloc ?_ _)); exact BK318.out) hb); have n1_ := Aside0.mk (below_step (by repeat (first | (with_reducible first | exact HB.out | apply below_alloc | apply pw_below_drewN | apply below_drew1 | refine below_set ?_ GE318.out) | exact HB.out)) hb); clear BK318; clear HB; have BK318 := n0_; have HB := n1_; clear n0_ n1_; (try clear hb); (try clear hb2); (try clear hk); (try clear hi)))
   go_ret
   exact ⟨by first | rfl | (simp [errW_none, errW_some] <;> rfl) | (simp [*, errW_none, errW_some] <;> rfl), by repeat (first | (with_reducible first | exact HB.out | apply below_alloc | apply pw_below_drewN | apply below_drew1 | refine below_set ?_ GE318.out) | exact HB.out)⟩
  ·
   rw [if_neg c43] at H
   have c43b0 : (t320 == (-1)) = false := beq_eq_false_iff_ne.mpr c43
   have c43b1 : (t320 != (-1)) = true := bne_iff_ne.mpr c43
   (have H3_ := Option.some.inj H; have H4_ := hT.out; rw [← H3_] at H4_; exact absurd H4_ (by decide))

end Go.Proofs.Ytofabmdndoaegaa.X
