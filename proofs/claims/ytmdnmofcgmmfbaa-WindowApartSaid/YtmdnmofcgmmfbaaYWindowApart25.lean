import Derived.Test.YtmdnmofcgmmfbaaYWindowApart13
import Derived.Test.YtmdnmofcgmmfbaaYWindowApart15
import Derived.Test.YtmdnmofcgmmfbaaYWindowApart16
import Derived.Test.YtmdnmofcgmmfbaaYWindowApart19
import Derived.Test.YtmdnmofcgmmfbaaYWindowApart21
import Derived.Test.YtmdnmofcgmmfbaaYWindowApart24
namespace Go.Proofs.Ytmdnmofcgmmfbaa.X
open Go.RowKit Go.Proofs.YtmdnmofcgmmfbaaW.PrintWords Go.Proofs.YtmdnmofcgmmfbaaW.PrintLast Go.Proofs.YtmdnmofcgmmfbaaW.PrintMore
attribute [local go_sem] max2_int min2_int max_two min_two max_three min_three max_four min_four   -- for this text's walks alone
set_option linter.unusedVariables false
set_option linter.unusedSimpArgs false
mutual
def bellwetherlaw37_WindowApart.j0 : Nat → List (List (S28)) → List Int → Int → Bool → Int → Int → Int → Int → Int → Int → Int → Int → Int → Int → List Int → Option (Bool)
 | 0, _, _, _, _, _, _, _, _, _, _, _, _, _, _, _ => none
 | k + 1, x1, x2, x3, x36, x499000, x499001, x499002, x499003, x499004, x499005, x499006, x499007, x499008, x499009, x499010 => if x36 = true then ((bellwetherlaw37_known.f k).bind fun t501 => (some t501)) else (bellwetherlaw37_WindowApart.l0 k x1 x2 x3 true 0 x499000 x499001 x499002 x499003 x499004 x499005 x499006 x499007 x499008 x499009 x499010)
def bellwetherlaw37_WindowApart.l0 : Nat → List (List (S28)) → List Int → Int → Bool → Int → Int → Int → Int → Int → Int → Int → Int → Int → Int → Int → List Int → Option (Bool)
 | 0, _, _, _, _, _, _, _, _, _, _, _, _, _, _, _, _ => none
 | k + 1, x1, x2, x3, x9, x10, x499000, x499001, x499002, x499003, x499004, x499005, x499006, x499007, x499008, x499009, x499010 => if x10 < (x2.length : Int) then (bellwetherlaw37_WindowApart.l1 k x1 x2 x3 x9 x10 (wrap64 (x3 - 1)) true x3 x499000 x499001 x499002 x499003 x499004 x499005 x499006 x499007 x499008 x499009 x499010) else ((window_Regular.f k x499000 x499001 x499002 x499003 x499004 x499005 x499006 x499007 x499008 x499009 x499010 x1 x2 x3).bind fun t502 => (if ((t502 == 0) == x9) = true then ((bellwetherlaw37_known.f k).bind fun t503 => (some t503)) else (some false)))
def bellwetherlaw37_WindowApart.l1 : Nat → List (List (S28)) → List Int → Int → Bool → Int → Int → Bool → Int → Int → Int → Int → Int → Int → Int → Int → Int → Int → Int → List Int → Option (Bool)
 | 0, _, _, _, _, _, _, _, _, _, _, _, _, _, _, _, _, _, _, _ => none
 | k + 1, x1, x2, x3, x9, x10, x11, x12, x13, x499000, x499001, x499002, x499003, x499004, x499005, x499006, x499007, x499008, x499009, x499010 => if x13 < (x1.length : Int) then (if 0 ≤ x10 then (if x10 < (x2.length : Int) then ((bellwetherref36_At.f x1 x13 (rd x2 x10)).bind fun bt505 => (if x9 = true then (if 0 < (x2.length : Int) then ((bellwetherref36_At.f x1 x13 (rd x2 0)).bind fun bt515 => (bellwetherlaw37_WindowApart.j3 k x1 x2 x3 (bt505.1 == bt515.1) x10 x11 x12 x13 bt505.1 x499000 x499001 x499002 x499003 x499004 x499005 x499006 x499007 x499008 x499009 x499010)) else (none)) else (bellwetherlaw37_WindowApart.j3 k x1 x2 x3 false x10 x11 x12 x13 bt505.1 x499000 x499001 x499002 x499003 x499004 x499005 x499006 x499007 x499008 x499009 x499010))) else (none)) else (none)) else (bellwetherlaw37_WindowApart.l0 k x1 x2 x3 x9 (wrap64 (x10 + 1)) x499000 x499001 x499002 x499003 x499004 x499005 x499006 x499007 x499008 x499009 x499010)
def bellwetherlaw37_WindowApart.j3 : Nat → List (List (S28)) → List Int → Int → Bool → Int → Int → Bool → Int → Bool → Int → Int → Int → Int → Int → Int → Int → Int → Int → Int → List Int → Option (Bool)
 | 0, _, _, _, _, _, _, _, _, _, _, _, _, _, _, _, _, _, _, _, _ => none
 | k + 1, x1, x2, x3, x9, x10, x11, x12, x13, x14, x499000, x499001, x499002, x499003, x499004, x499005, x499006, x499007, x499008, x499009, x499010 => if x14 = true then (bellwetherlaw37_WindowApart.j4 k x1 x2 x3 x9 x10 x11 x12 x13 x14 (!x12) x499000 x499001 x499002 x499003 x499004 x499005 x499006 x499007 x499008 x499009 x499010) else (bellwetherlaw37_WindowApart.j4 k x1 x2 x3 x9 x10 x11 x12 x13 x14 false x499000 x499001 x499002 x499003 x499004 x499005 x499006 x499007 x499008 x499009 x499010)
def bellwetherlaw37_WindowApart.j4 : Nat → List (List (S28)) → List Int → Int → Bool → Int → Int → Bool → Int → Bool → Bool → Int → Int → Int → Int → Int → Int → Int → Int → Int → Int → List Int → Option (Bool)
 | 0, _, _, _, _, _, _, _, _, _, _, _, _, _, _, _, _, _, _, _, _, _ => none
 | k + 1, x1, x2, x3, x9, x10, x11, x12, x13, x14, x77, x499000, x499001, x499002, x499003, x499004, x499005, x499006, x499007, x499008, x499009, x499010 => if x77 = true then (if x9 = true then (bellwetherlaw37_WindowApart.j5 k x1 x2 x3 ((wrap64 (x13 - x11)) == x499003) x10 x11 x12 x13 x14 x499000 x499001 x499002 x499003 x499004 x499005 x499006 x499007 x499008 x499009 x499010) else (bellwetherlaw37_WindowApart.j5 k x1 x2 x3 false x10 x11 x12 x13 x14 x499000 x499001 x499002 x499003 x499004 x499005 x499006 x499007 x499008 x499009 x499010)) else (bellwetherlaw37_WindowApart.j5 k x1 x2 x3 x9 x10 x11 x12 x13 x14 x499000 x499001 x499002 x499003 x499004 x499005 x499006 x499007 x499008 x499009 x499010)
def bellwetherlaw37_WindowApart.j5 : Nat → List (List (S28)) → List Int → Int → Bool → Int → Int → Bool → Int → Bool → Int → Int → Int → Int → Int → Int → Int → Int → Int → Int → List Int → Option (Bool)
 | 0, _, _, _, _, _, _, _, _, _, _, _, _, _, _, _, _, _, _, _, _ => none
 | k + 1, x1, x2, x3, x9, x10, x11, x12, x13, x14, x499000, x499001, x499002, x499003, x499004, x499005, x499006, x499007, x499008, x499009, x499010 => if x14 = true then (bellwetherlaw37_WindowApart.j6 k x1 x2 x3 x9 x10 x13 false x13 x499000 x499001 x499002 x499003 x499004 x499005 x499006 x499007 x499008 x499009 x499010) else (bellwetherlaw37_WindowApart.j6 k x1 x2 x3 x9 x10 x11 x12 x13 x499000 x499001 x499002 x499003 x499004 x499005 x499006 x499007 x499008 x499009 x499010)
def bellwetherlaw37_WindowApart.j6 : Nat → List (List (S28)) → List Int → Int → Bool → Int → Int → Bool → Int → Int → Int → Int → Int → Int → Int → Int → Int → Int → Int → List Int → Option (Bool)
 | 0, _, _, _, _, _, _, _, _, _, _, _, _, _, _, _, _, _, _, _ => none
 | k + 1, x1, x2, x3, x9, x10, x11, x12, x13, x499000, x499001, x499002, x499003, x499004, x499005, x499006, x499007, x499008, x499009, x499010 => if x12 = true then (if x9 = true then (bellwetherlaw37_WindowApart.l1 k x1 x2 x3 (decide ((wrap64 ((wrap64 (x13 - x3)) + 1)) < x499003)) x10 x11 x12 (wrap64 (x13 + 1)) x499000 x499001 x499002 x499003 x499004 x499005 x499006 x499007 x499008 x499009 x499010) else (bellwetherlaw37_WindowApart.l1 k x1 x2 x3 false x10 x11 x12 (wrap64 (x13 + 1)) x499000 x499001 x499002 x499003 x499004 x499005 x499006 x499007 x499008 x499009 x499010)) else (if x9 = true then (bellwetherlaw37_WindowApart.l1 k x1 x2 x3 (decide ((wrap64 (x13 - x11)) < x499003)) x10 x11 x12 (wrap64 (x13 + 1)) x499000 x499001 x499002 x499003 x499004 x499005 x499006 x499007 x499008 x499009 x499010) else (bellwetherlaw37_WindowApart.l1 k x1 x2 x3 false x10 x11 x12 (wrap64 (x13 + 1)) x499000 x499001 x499002 x499003 x499004 x499005 x499006 x499007 x499008 x499009 x499010))
end
def bellwetherlaw37_WindowApart.f (k : Nat) (a0_0 : Int) (a0_1 : Int) (a0_2 : Int) (a0_3 : Int) (a0_4 : Int) (a0_5 : Int) (a0_6 : Int) (a0_7 : Int) (a0_8 : Int) (a0_9 : Int) (l0_10 : List Int) (l1 : List (List (S28))) (l2 : List Int) (a3 : Int) : Option (Bool) := (bellwetherref36_Few.f k l1 200).bind fun t499 => (if t499 = true then ((bellwetherref03_Plain.f k a0_0 a0_1 a0_2 a0_3 a0_4 a0_5 a0_6 a0_7 a0_8 a0_9 l0_10).bind fun t500 => (if t500 = 0 then (if (l2.length : Int) = 0 then (bellwetherlaw37_WindowApart.j0 k l1 l2 a3 true a0_0 a0_1 a0_2 a0_3 a0_4 a0_5 a0_6 a0_7 a0_8 a0_9 l0_10) else (if (l2.length : Int) > 20 then (bellwetherlaw37_WindowApart.j0 k l1 l2 a3 true a0_0 a0_1 a0_2 a0_3 a0_4 a0_5 a0_6 a0_7 a0_8 a0_9 l0_10) else (bellwetherlaw37_WindowApart.j0 k l1 l2 a3 (decide (a3 < 0)) a0_0 a0_1 a0_2 a0_3 a0_4 a0_5 a0_6 a0_7 a0_8 a0_9 l0_10))) else (bellwetherlaw37_WindowApart.j0 k l1 l2 a3 true a0_0 a0_1 a0_2 a0_3 a0_4 a0_5 a0_6 a0_7 a0_8 a0_9 l0_10))) else (bellwetherlaw37_WindowApart.j0 k l1 l2 a3 true a0_0 a0_1 a0_2 a0_3 a0_4 a0_5 a0_6 a0_7 a0_8 a0_9 l0_10))
theorem bellwetherlaw37_WindowApart.fld28_0 (v0 v1 v2 v3 v4 v5 v6 : Value) (w : World) : (Instr.field 28 (.agg #[v0, v1, v2, v3, v4, v5, v6]) 0).run Try.prog w = .ok (v0) w := by kernel_rfl
attribute [local go_sem] bellwetherlaw37_WindowApart.fld28_0
set_option maxHeartbeats 8000000 in
set_option maxRecDepth 100000 in
theorem bellwetherlaw37_WindowApart.calls (k : Nat) (a0_0 : Int) (a0_1 : Int) (a0_2 : Int) (a0_3 : Int) (a0_4 : Int) (a0_5 : Int) (a0_6 : Int) (a0_7 : Int) (a0_8 : Int) (a0_9 : Int) (A0_10 : Option Addr) (c0_10 : Nat) (l0_10 : List Int) (A1 : Option Addr) (c1 : Nat) (l1 : List (List (S28))) (A2 : Option Addr) (c2 : Nat) (l2 : List Int) (a3 : Int) (r : Bool) (w : World) (hr0_10 : Kd.C (Kd.int .i64) w A0_10 l0_10.length l0_10) (hc0_10 : l0_10.length ≤ c0_10) (hr1 : Kd.C (Kd.slice 28 k28) w A1 l1.length l1) (hc1 : l1.length ≤ c1) (hr2 : Kd.C (Kd.int .i64) w A2 l2.length l2) (hc2 : l2.length ≤ c2) (h : bellwetherlaw37_WindowApart.f k a0_0 a0_1 a0_2 a0_3 a0_4 a0_5 a0_6 a0_7 a0_8 a0_9 l0_10 l1 l2 a3 = some r) (hT : Aside0 (r = true) := by first | exact ⟨rfl⟩ | assumption) :
  Calls Try.prog 8 #[.agg #[.int .i64 a0_0, .int .i64 a0_1, .int .i64 a0_2, .int .i64 a0_3, .int .i64 a0_4, .int .i64 a0_5, .int .i64 a0_6, .int .i64 a0_7, .int .i64 a0_8, .int .i64 a0_9, .slice A0_10 l0_10.length c0_10], .slice A1 l1.length c1, .slice A2 l2.length c2, .int .i64 a3] w fun e w' => e = .returned (.bool r) ∧ Below w.heap.size w w' := by
 have hu42 := Try.underlying42
 have hu28 := Try.underlying28
 have HR0_10 := Aside0.mk hr0_10
 have HC0_10 := Aside0.mk hc0_10
 clear hr0_10 hc0_10
 have HR1 := Aside0.mk hr1
 have HC1 := Aside0.mk hc1
 clear hr1 hc1
 have HR2 := Aside0.mk hr2
 have HC2 := Aside0.mk hc2
 clear hr2 hc2
 have HB := Aside0.mk (Below.refl w.heap.size w)
 have H : ((bellwetherref36_Few.f k l1 200).bind fun t499 => (if t499 = true then ((bellwetherref03_Plain.f k a0_0 a0_1 a0_2 a0_3 a0_4 a0_5 a0_6 a0_7 a0_8 a0_9 l0_10).bind fun t500 => (if t500 = 0 then (if (l2.length : Int) = 0 then (bellwetherlaw37_WindowApart.j0 k l1 l2 a3 true a0_0 a0_1 a0_2 a0_3 a0_4 a0_5 a0_6 a0_7 a0_8 a0_9 l0_10) else (if (l2.length : Int) > 20 then (bellwetherlaw37_WindowApart.j0 k l1 l2 a3 true a0_0 a0_1 a0_2 a0_3 a0_4 a0_5 a0_6 a0_7 a0_8 a0_9 l0_10) else (bellwetherlaw37_WindowApart.j0 k l1 l2 a3 (decide (a3 < 0)) a0_0 a0_1 a0_2 a0_3 a0_4 a0_5 a0_6 a0_7 a0_8 a0_9 l0_10))) else (bellwetherlaw37_WindowApart.j0 k l1 l2 a3 true a0_0 a0_1 a0_2 a0_3 a0_4 a0_5 a0_6 a0_7 a0_8 a0_9 l0_10))) else (bellwetherlaw37_WindowApart.j0 k l1 l2 a3 true a0_0 a0_1 a0_2 a0_3 a0_4 a0_5 a0_6 a0_7 a0_8 a0_9 l0_10))) = some r := h
 clear h
 have HC5 := Aside0.mk H
 clear H
 go_enter Try.func8, Try.ntmps8
 go_upto_region 1 with (first | ((with_reducible refine gate_dst (N := 4) rfl ?_); (try (refine gate_guard (by rfl) ?_; dsimp only)); refine box_event ?hg (N := 4) ?hd (cs := #[.int .i64 a0_0, .int .i64 a0_1, .int .i64 a0_2, .int .i64 a0_3, .int .i64 a0_4, .int .i64 a0_5, .int .i64 a0_6, .int .i64 a0_7, .int .i64 a0_8, .int .i64 a0_9, .slice A0_10 l0_10.length c0_10]) (t := 42) ?hr ?_; (case hd => rfl); (case hg => rfl); (case hr => first | (go_simp; done) | (go_simp; rfl)); intro gb498 hg w6 hbox hb; have n0_ := Aside0.mk (below_step (by repeat (first | (with_reducible first | exact HB.out | apply below_alloc | apply pw_below_drewN | apply below_drew1) | exact HB.out)) hb); have n1_ := Aside0.mk (hbox); have n2_ := Aside0.mk ((by rw [hg]; exact (below_size (by repeat (first | (with_reducible first | exact HB.out | apply below_alloc | apply pw_below_drewN | apply below_drew1) | exact HB.out))) : w.heap.size ≤ gb498)); have n3_ := Aside0.mk ((by rw [hg]; exact (below_size (by repeat (first | (with_reducible first | exact HB.out | apply below_alloc | apply pw_below_drewN | apply below_drew1) | exact HB.out))) : w.heap.size ≤ gb498)); clear HB; have HB := n0_; have BK498 := n1_; have GW498 := n2_; have GE498 := n3_; clear n0_ n1_ n2_ n3_; clear hb hbox hg))
 (try simp only [Act.put, List.setIfInBounds_toArray, List.set_cons_zero, List.set_cons_succ])
 go_cut [36] (fun v36 wc => ∃ (kq : Nat) (x36_4 : Bool), v36 = .bool x36_4 ∧ Aside0 (bellwetherlaw37_WindowApart.j0 kq l1 l2 a3 x36_4 a0_0 a0_1 a0_2 a0_3 a0_4 a0_5 a0_6 a0_7 a0_8 a0_9 l0_10 = some r) ∧ Aside0 (kq ≤ k) ∧ Aside0 (wc.heap[gb498]? = some (.cells #[.int .i64 a0_0, .int .i64 a0_1, .int .i64 a0_2, .int .i64 a0_3, .int .i64 a0_4, .int .i64 a0_5, .int .i64 a0_6, .int .i64 a0_7, .int .i64 a0_8, .int .i64 a0_9, (.slice A0_10 l0_10.length c0_10)] 42 (0, 0))) ∧ Aside0 (Below w.heap.size w wc))
 case first =>
  have H := HC5.out
  clear HC5
  replace H := Option.bind_eq_some_iff.mp H
  obtain ⟨t499, A70, H⟩ := H
  replace H : (if t499 = true then ((bellwetherref03_Plain.f k a0_0 a0_1 a0_2 a0_3 a0_4 a0_5 a0_6 a0_7 a0_8 a0_9 l0_10).bind fun t500 => (if t500 = 0 then (if (l2.length : Int) = 0 then (bellwetherlaw37_WindowApart.j0 k l1 l2 a3 true a0_0 a0_1 a0_2 a0_3 a0_4 a0_5 a0_6 a0_7 a0_8 a0_9 l0_10) else (if (l2.length : Int) > 20 then (bellwetherlaw37_WindowApart.j0 k l1 l2 a3 true a0_0 a0_1 a0_2 a0_3 a0_4 a0_5 a0_6 a0_7 a0_8 a0_9 l0_10) else (bellwetherlaw37_WindowApart.j0 k l1 l2 a3 (decide (a3 < 0)) a0_0 a0_1 a0_2 a0_3 a0_4 a0_5 a0_6 a0_7 a0_8 a0_9 l0_10))) else (bellwetherlaw37_WindowApart.j0 k l1 l2 a3 true a0_0 a0_1 a0_2 a0_3 a0_4 a0_5 a0_6 a0_7 a0_8 a0_9 l0_10))) else (bellwetherlaw37_WindowApart.j0 k l1 l2 a3 true a0_0 a0_1 a0_2 a0_3 a0_4 a0_5 a0_6 a0_7 a0_8 a0_9 l0_10)) = some r := H
  have A7 := Aside0.mk A70
  clear A70
  by_cases c8 : t499 = true
  ·
   subst c8
   have H1 : ((bellwetherref03_Plain.f k a0_0 a0_1 a0_2 a0_3 a0_4 a0_5 a0_6 a0_7 a0_8 a0_9 l0_10).bind fun t500 => (if t500 = 0 then (if (l2.length : Int) = 0 then (bellwetherlaw37_WindowApart.j0 k l1 l2 a3 true a0_0 a0_1 a0_2 a0_3 a0_4 a0_5 a0_6 a0_7 a0_8 a0_9 l0_10) else (if (l2.length : Int) > 20 then (bellwetherlaw37_WindowApart.j0 k l1 l2 a3 true a0_0 a0_1 a0_2 a0_3 a0_4 a0_5 a0_6 a0_7 a0_8 a0_9 l0_10) else (bellwetherlaw37_WindowApart.j0 k l1 l2 a3 (decide (a3 < 0)) a0_0 a0_1 a0_2 a0_3 a0_4 a0_5 a0_6 a0_7 a0_8 a0_9 l0_10))) else (bellwetherlaw37_WindowApart.j0 k l1 l2 a3 true a0_0 a0_1 a0_2 a0_3 a0_4 a0_5 a0_6 a0_7 a0_8 a0_9 l0_10))) = some r := by rw [if_pos rfl] at H; exact H
   clear H
   have H := H1
   clear H1
   replace H := Option.bind_eq_some_iff.mp H
   obtain ⟨t500, A90, H⟩ := H
   replace H : (if t500 = 0 then (if (l2.length : Int) = 0 then (bellwetherlaw37_WindowApart.j0 k l1 l2 a3 true a0_0 a0_1 a0_2 a0_3 a0_4 a0_5 a0_6 a0_7 a0_8 a0_9 l0_10) else (if (l2.length : Int) > 20 then (bellwetherlaw37_WindowApart.j0 k l1 l2 a3 true a0_0 a0_1 a0_2 a0_3 a0_4 a0_5 a0_6 a0_7 a0_8 a0_9 l0_10) else (bellwetherlaw37_WindowApart.j0 k l1 l2 a3 (decide (a3 < 0)) a0_0 a0_1 a0_2 a0_3 a0_4 a0_5 a0_6 a0_7 a0_8 a0_9 l0_10))) else (bellwetherlaw37_WindowApart.j0 k l1 l2 a3 true a0_0 a0_1 a0_2 a0_3 a0_4 a0_5 a0_6 a0_7 a0_8 a0_9 l0_10)) = some r := H
   have A9 := Aside0.mk A90
   clear A90
   by_cases c10 : t500 = 0
   ·
    rw [if_pos c10] at H
    have c10b0 : (t500 == 0) = true := beq_iff_eq.mpr c10
    have c10b1 : (t500 != 0) = false := bne_eq_false_iff_eq.mpr c10
    clear c10
    (first | rw [c10b0] | (simp only [i64_w, i32_w]; rw [c10b0]) | skip)
    by_cases c11 : (l2.length : Int) = 0
    ·
     rw [if_pos c11] at H
     have c11b0 : ((l2.length : Int) == 0) = true := beq_iff_eq.mpr c11
     have c11b1 : ((l2.length : Int) != 0) = false := bne_eq_false_iff_eq.mpr c11
     clear c11
     have H' := Aside0.mk H
     clear H
     go_wp2_with (first | ((with_reducible refine gate_callee (f := 9) rfl ?_); refine goesL_ (some 16) rfl rfl Try.func9 (by kernel_rfl) rfl #[.slice A1 l1.length c1, .int .i64 200] rfl (by (try simp only [List.map_toArray, List.map_cons, List.map_nil]); first | done | rfl | (simp only [List.length_drop, List.length_take]; rfl)) ?_; (with_reducible refine (bellwetherref36_Few.calls k _ _ l1 200 true _ ?side1 ?side2 A7.out).mono ?_); (case side1 => repeat (first | exact (Kd.C_below HR1.out HB.out) | (with_reducible refine Kd.C_alloc ?_ _) | (with_reducible refine Kd.C_drewN ?_ _) | (with_reducible refine Kd.C_drew ?_))); (case side2 => exact HC1.out); rintro e w' ⟨rfl, ⟨nd, rfl⟩⟩; refine ⟨_, rfl, ?_⟩; have hcz12_0 : w6.cell? ⟨gb498, 0, none⟩ = some (.int .i64 a0_0) := (blk_cell BK498.out 0).trans rfl; have hcz12_1 : w6.cell? ⟨gb498, 1, none⟩ = some (.int .i64 a0_1) := (blk_cell BK498.out 1).trans rfl; have hcz12_2 : w6.cell? ⟨gb498, 2, none⟩ = some (.int .i64 a0_2) := (blk_cell BK498.out 2).trans rfl; have hcz12_3 : w6.cell? ⟨gb498, 3, none⟩ = some (.int .i64 a0_3) := (blk_cell BK498.out 3).trans rfl; have hcz12_4 : w6.cell? ⟨gb498, 4, none⟩ = some (.int .i64 a0_4) := (blk_cell BK498.out 4).trans rfl; have hcz12_5 : w6.cell? ⟨gb498, 5, none⟩ = some (.int .i64 a0_5) := (blk_cell BK498.out 5).trans rfl; have hcz12_6 : w6.cell? ⟨gb498, 6, none⟩ = some (.int .i64 a0_6) := (blk_cell BK498.out 6).trans rfl; have hcz12_7 : w6.cell? ⟨gb498, 7, none⟩ = some (.int .i64 a0_7) := (blk_cell BK498.out 7).trans rfl; have hcz12_8 : w6.cell? ⟨gb498, 8, none⟩ = some (.int .i64 a0_8) := (blk_cell BK498.out 8).trans rfl; have hcz12_9 : w6.cell? ⟨gb498, 9, none⟩ = some (.int .i64 a0_9) := (blk_cell BK498.out 9).trans rfl; have hcz12_10 : w6.cell? ⟨gb498, 10, none⟩ = some (.slice A0_10 l0_10.length c0_10) := (blk_cell BK498.out 10).trans rfl; have hfz12_0 := blk_frozen BK498.out 0; have hfz12_1 := blk_frozen BK498.out 1; have hfz12_2 := blk_frozen BK498.out 2; have hfz12_3 := blk_frozen BK498.out 3; have hfz12_4 := blk_frozen BK498.out 4; have hfz12_5 := blk_frozen BK498.out 5; have hfz12_6 := blk_frozen BK498.out 6; have hfz12_7 := blk_frozen BK498.out 7; have hfz12_8 := blk_frozen BK498.out 8; have hfz12_9 := blk_frozen BK498.out 9; have hfz12_10 := blk_frozen BK498.out 10) | (go_at_call 34; (with_reducible refine (bellwetherref03_Plain.calls k a0_0 a0_1 a0_2 a0_3 a0_4 a0_5 a0_6 a0_7 a0_8 a0_9 _ _ l0_10 t500 _ ?side1 ?side2 A9.out).mono ?_); (case side1 => repeat (first | exact (Kd.C_below HR0_10.out (by repeat (first | (with_reducible first | exact HB.out | apply below_alloc | apply pw_below_drewN | apply below_drew1 | refine below_set ?_ GE498.out) | exact HB.out))) | (with_reducible refine Kd.C_alloc ?_ _) | (with_reducible refine Kd.C_drewN ?_ _) | (with_reducible refine Kd.C_drew ?_))); (case side2 => exact HC0_10.out); rintro e w13 ⟨rfl, hb⟩; have n0_ := Aside0.mk (blk_below (g := gb498) (o := .cells #[.int .i64 a0_0, .int .i64 a0_1, .int .i64 a0_2, .int .i64 a0_3, .int .i64 a0_4, .int .i64 a0_5, .int .i64 a0_6, .int .i64 a0_7, .int .i64 a0_8, .int .i64 a0_9, .slice A0_10 l0_10.length c0_10] 42 (0, 0)) (by (with_reducible repeat (first | refine blk_drewN ?_ _ | refine blk_drew ?_ | refine blk_alloc ?_ _)); exact BK498.out) hb); have n1_ := Aside0.mk (below_step (by repeat (first | (with_reducible first | exact HB.out | apply below_alloc | apply pw_below_drewN | apply below_drew1 | refine below_set ?_ GE498.out) | exact HB.out)) hb); clear BK498; clear HB; have BK498 := n0_; have HB := n1_; clear n0_ n1_; (try clear hb); (try clear hb2); (try clear hk); (try clear hi)))
     go_meet
     case rel => exact ⟨_, (true), (by first | rfl | (simp; done) | (simp [*]; done)), H', ⟨by first | omega | exact Nat.le_refl _⟩, ⟨by (with_reducible repeat (first | refine blk_drewN ?_ _ | refine blk_drew ?_ | refine blk_alloc ?_ _)); exact BK498.out⟩, ⟨by repeat (first | (with_reducible first | exact HB.out | apply below_alloc | apply pw_below_drewN | apply below_drew1 | refine below_set ?_ GE498.out) | exact HB.out)⟩⟩
    ·
     rw [if_neg c11] at H
     have c11b0 : ((l2.length : Int) == 0) = false := beq_eq_false_iff_ne.mpr c11
     have c11b1 : ((l2.length : Int) != 0) = true := bne_iff_ne.mpr c11
     have c11b2 : ¬ (l2 = []) := fun h_ => c11 (by rw [h_]; rfl)
     by_cases c14 : (l2.length : Int) > 20
     ·
      rw [if_pos c14] at H
      have c14b0 : decide (20 < (l2.length : Int)) = true := decide_eq_true c14
      have c14b1 : decide (20 < l2.length) = true := decide_eq_true (by omega)
      clear c14
      have H' := Aside0.mk H
      clear H
      go_wp2_with (first | ((with_reducible refine gate_callee (f := 9) rfl ?_); refine goesL_ (some 16) rfl rfl Try.func9 (by kernel_rfl) rfl #[.slice A1 l1.length c1, .int .i64 200] rfl (by (try simp only [List.map_toArray, List.map_cons, List.map_nil]); first | done | rfl | (simp only [List.length_drop, List.length_take]; rfl)) ?_; (with_reducible refine (bellwetherref36_Few.calls k _ _ l1 200 true _ ?side1 ?side2 A7.out).mono ?_); (case side1 => repeat (first | exact (Kd.C_below HR1.out HB.out) | (with_reducible refine Kd.C_alloc ?_ _) | (with_reducible refine Kd.C_drewN ?_ _) | (with_reducible refine Kd.C_drew ?_))); (case side2 => exact HC1.out); rintro e w' ⟨rfl, ⟨nd, rfl⟩⟩; refine ⟨_, rfl, ?_⟩; have hcz15_0 : w6.cell? ⟨gb498, 0, none⟩ = some (.int .i64 a0_0) := (blk_cell BK498.out 0).trans rfl; have hcz15_1 : w6.cell? ⟨gb498, 1, none⟩ = some (.int .i64 a0_1) := (blk_cell BK498.out 1).trans rfl; have hcz15_2 : w6.cell? ⟨gb498, 2, none⟩ = some (.int .i64 a0_2) := (blk_cell BK498.out 2).trans rfl; have hcz15_3 : w6.cell? ⟨gb498, 3, none⟩ = some (.int .i64 a0_3) := (blk_cell BK498.out 3).trans rfl; have hcz15_4 : w6.cell? ⟨gb498, 4, none⟩ = some (.int .i64 a0_4) := (blk_cell BK498.out 4).trans rfl; have hcz15_5 : w6.cell? ⟨gb498, 5, none⟩ = some (.int .i64 a0_5) := (blk_cell BK498.out 5).trans rfl; have hcz15_6 : w6.cell? ⟨gb498, 6, none⟩ = some (.int .i64 a0_6) := (blk_cell BK498.out 6).trans rfl; have hcz15_7 : w6.cell? ⟨gb498, 7, none⟩ = some (.int .i64 a0_7) := (blk_cell BK498.out 7).trans rfl; have hcz15_8 : w6.cell? ⟨gb498, 8, none⟩ = some (.int .i64 a0_8) := (blk_cell BK498.out 8).trans rfl; have hcz15_9 : w6.cell? ⟨gb498, 9, none⟩ = some (.int .i64 a0_9) := (blk_cell BK498.out 9).trans rfl; have hcz15_10 : w6.cell? ⟨gb498, 10, none⟩ = some (.slice A0_10 l0_10.length c0_10) := (blk_cell BK498.out 10).trans rfl; have hfz15_0 := blk_frozen BK498.out 0; have hfz15_1 := blk_frozen BK498.out 1; have hfz15_2 := blk_frozen BK498.out 2; have hfz15_3 := blk_frozen BK498.out 3; have hfz15_4 := blk_frozen BK498.out 4; have hfz15_5 := blk_frozen BK498.out 5; have hfz15_6 := blk_frozen BK498.out 6; have hfz15_7 := blk_frozen BK498.out 7; have hfz15_8 := blk_frozen BK498.out 8; have hfz15_9 := blk_frozen BK498.out 9; have hfz15_10 := blk_frozen BK498.out 10) | (go_at_call 34; (with_reducible refine (bellwetherref03_Plain.calls k a0_0 a0_1 a0_2 a0_3 a0_4 a0_5 a0_6 a0_7 a0_8 a0_9 _ _ l0_10 t500 _ ?side1 ?side2 A9.out).mono ?_); (case side1 => repeat (first | exact (Kd.C_below HR0_10.out (by repeat (first | (with_reducible first | exact HB.out | apply below_alloc | apply pw_below_drewN | apply below_drew1 | refine below_set ?_ GE498.out) | exact HB.out))) | (with_reducible refine Kd.C_alloc ?_ _) | (with_reducible refine Kd.C_drewN ?_ _) | (with_reducible refine Kd.C_drew ?_))); (case side2 => exact HC0_10.out); rintro e w16 ⟨rfl, hb⟩; have n0_ := Aside0.mk (blk_below (g := gb498) (o := .cells #[.int .i64 a0_0, .int .i64 a0_1, .int .i64 a0_2, .int .i64 a0_3, .int .i64 a0_4, .int .i64 a0_5, .int .i64 a0_6, .int .i64 a0_7, .int .i64 a0_8, .int .i64 a0_9, .slice A0_10 l0_10.length c0_10] 42 (0, 0)) (by (with_reducible repeat (first | refine blk_drewN ?_ _ | refine blk_drew ?_ | refine blk_alloc ?_ _)); exact BK498.out) hb); have n1_ := Aside0.mk (below_step (by repeat (first | (with_reducible first | exact HB.out | apply below_alloc | apply pw_below_drewN | apply below_drew1 | refine below_set ?_ GE498.out) | exact HB.out)) hb); clear BK498; clear HB; have BK498 := n0_; have HB := n1_; clear n0_ n1_; (try clear hb); (try clear hb2); (try clear hk); (try clear hi)))
      go_meet
      case rel => exact ⟨_, (true), (by first | rfl | (simp; done) | (simp [*]; done)), H', ⟨by first | omega | exact Nat.le_refl _⟩, ⟨by (with_reducible repeat (first | refine blk_drewN ?_ _ | refine blk_drew ?_ | refine blk_alloc ?_ _)); exact BK498.out⟩, ⟨by repeat (first | (with_reducible first | exact HB.out | apply below_alloc | apply pw_below_drewN | apply below_drew1 | refine below_set ?_ GE498.out) | exact HB.out)⟩⟩
     ·
      rw [if_neg c14] at H
      have c14b0 : decide (20 < (l2.length : Int)) = false := decide_eq_false c14
      have c14b1 : decide (20 < l2.length) = false := decide_eq_false (by omega)
      clear c14
      have H' := Aside0.mk H
      clear H
      go_wp2_with (first | ((with_reducible refine gate_callee (f := 9) rfl ?_); refine goesL_ (some 16) rfl rfl Try.func9 (by kernel_rfl) rfl #[.slice A1 l1.length c1, .int .i64 200] rfl (by (try simp only [List.map_toArray, List.map_cons, List.map_nil]); first | done | rfl | (simp only [List.length_drop, List.length_take]; rfl)) ?_; (with_reducible refine (bellwetherref36_Few.calls k _ _ l1 200 true _ ?side1 ?side2 A7.out).mono ?_); (case side1 => repeat (first | exact (Kd.C_below HR1.out HB.out) | (with_reducible refine Kd.C_alloc ?_ _) | (with_reducible refine Kd.C_drewN ?_ _) | (with_reducible refine Kd.C_drew ?_))); (case side2 => exact HC1.out); rintro e w' ⟨rfl, ⟨nd, rfl⟩⟩; refine ⟨_, rfl, ?_⟩; have hcz17_0 : w6.cell? ⟨gb498, 0, none⟩ = some (.int .i64 a0_0) := (blk_cell BK498.out 0).trans rfl; have hcz17_1 : w6.cell? ⟨gb498, 1, none⟩ = some (.int .i64 a0_1) := (blk_cell BK498.out 1).trans rfl; have hcz17_2 : w6.cell? ⟨gb498, 2, none⟩ = some (.int .i64 a0_2) := (blk_cell BK498.out 2).trans rfl; have hcz17_3 : w6.cell? ⟨gb498, 3, none⟩ = some (.int .i64 a0_3) := (blk_cell BK498.out 3).trans rfl; have hcz17_4 : w6.cell? ⟨gb498, 4, none⟩ = some (.int .i64 a0_4) := (blk_cell BK498.out 4).trans rfl; have hcz17_5 : w6.cell? ⟨gb498, 5, none⟩ = some (.int .i64 a0_5) := (blk_cell BK498.out 5).trans rfl; have hcz17_6 : w6.cell? ⟨gb498, 6, none⟩ = some (.int .i64 a0_6) := (blk_cell BK498.out 6).trans rfl; have hcz17_7 : w6.cell? ⟨gb498, 7, none⟩ = some (.int .i64 a0_7) := (blk_cell BK498.out 7).trans rfl; have hcz17_8 : w6.cell? ⟨gb498, 8, none⟩ = some (.int .i64 a0_8) := (blk_cell BK498.out 8).trans rfl; have hcz17_9 : w6.cell? ⟨gb498, 9, none⟩ = some (.int .i64 a0_9) := (blk_cell BK498.out 9).trans rfl; have hcz17_10 : w6.cell? ⟨gb498, 10, none⟩ = some (.slice A0_10 l0_10.length c0_10) := (blk_cell BK498.out 10).trans rfl; have hfz17_0 := blk_frozen BK498.out 0; have hfz17_1 := blk_frozen BK498.out 1; have hfz17_2 := blk_frozen BK498.out 2; have hfz17_3 := blk_frozen BK498.out 3; have hfz17_4 := blk_frozen BK498.out 4; have hfz17_5 := blk_frozen BK498.out 5; have hfz17_6 := blk_frozen BK498.out 6; have hfz17_7 := blk_frozen BK498.out 7; have hfz17_8 := blk_frozen BK498.out 8; have hfz17_9 := blk_frozen BK498.out 9; have hfz17_10 := blk_frozen BK498.out 10) | (go_at_call 34; (with_reducible refine (bellwetherref03_Plain.calls k a0_0 a0_1 a0_2 a0_3 a0_4 a0_5 a0_6 a0_7 a0_8 a0_9 _ _ l0_10 t500 _ ?side1 ?side2 A9.out).mono ?_); (case side1 => repeat (first | exact (Kd.C_below HR0_10.out (by repeat (first | (with_reducible first | exact HB.out | apply below_alloc | apply pw_below_drewN | apply below_drew1 | refine below_set ?_ GE498.out) | exact HB.out))) | (with_reducible refine Kd.C_alloc ?_ _) | (with_reducible refine Kd.C_drewN ?_ _) | (with_reducible refine Kd.C_drew ?_))); (case side2 => exact HC0_10.out); rintro e w18 ⟨rfl, hb⟩; have n0_ := Aside0.mk (blk_below (g := gb498) (o := .cells #[.int .i64 a0_0, .int .i64 a0_1, .int .i64 a0_2, .int .i64 a0_3, .int .i64 a0_4, .int .i64 a0_5, .int .i64 a0_6, .int .i64 a0_7, .int .i64 a0_8, .int .i64 a0_9, .slice A0_10 l0_10.length c0_10] 42 (0, 0)) (by (with_reducible repeat (first | refine blk_drewN ?_ _ | refine blk_drew ?_ | refine blk_alloc ?_ _)); exact BK498.out) hb); have n1_ := Aside0.mk (below_step (by repeat (first | (with_reducible first | exact HB.out | apply below_alloc | apply pw_below_drewN | apply below_drew1 | refine below_set ?_ GE498.out) | exact HB.out)) hb); clear BK498; clear HB; have BK498 := n0_; have HB := n1_; clear n0_ n1_; (try clear hb); (try clear hb2); (try clear hk); (try clear hi)))
      go_meet
      case rel => exact ⟨_, (decide (a3 < 0)), (by first | rfl | (simp; done) | (simp [*]; done)), H', ⟨by first | omega | exact Nat.le_refl _⟩, ⟨by (with_reducible repeat (first | refine blk_drewN ?_ _ | refine blk_drew ?_ | refine blk_alloc ?_ _)); exact BK498.out⟩, ⟨by repeat (first | (with_reducible first | exact HB.out | apply below_alloc | apply pw_below_drewN | apply below_drew1 | refine below_set ?_ GE498.out) | exact HB.out)⟩⟩
   ·
    rw [if_neg c10] at H
    have c10b0 : (t500 == 0) = false := beq_eq_false_iff_ne.mpr c10
    have c10b1 : (t500 != 0) = true := bne_iff_ne.mpr c10
    (first | rw [c10b0] | (simp only [i64_w, i32_w]; rw [c10b0]) | skip)
    have H' := Aside0.mk H
    clear H
    go_wp2_with (first | ((with_reducible refine gate_callee (f := 9) rfl ?_); refine goesL_ (some 16) rfl rfl Try.func9 (by kernel_rfl) rfl #[.slice A1 l1.length c1, .int .i64 200] rfl (by (try simp only [List.map_toArray, List.map_cons, List.map_nil]); first | done | rfl | (simp only [List.length_drop, List.length_take]; rfl)) ?_; (with_reducible refine (bellwetherref36_Few.calls k _ _ l1 200 true _ ?side1 ?side2 A7.out).mono ?_); (case side1 => repeat (first | exact (Kd.C_below HR1.out HB.out) | (with_reducible refine Kd.C_alloc ?_ _) | (with_reducible refine Kd.C_drewN ?_ _) | (with_reducible refine Kd.C_drew ?_))); (case side2 => exact HC1.out); rintro e w' ⟨rfl, ⟨nd, rfl⟩⟩; refine ⟨_, rfl, ?_⟩; have hcz19_0 : w6.cell? ⟨gb498, 0, none⟩ = some (.int .i64 a0_0) := (blk_cell BK498.out 0).trans rfl; have hcz19_1 : w6.cell? ⟨gb498, 1, none⟩ = some (.int .i64 a0_1) := (blk_cell BK498.out 1).trans rfl; have hcz19_2 : w6.cell? ⟨gb498, 2, none⟩ = some (.int .i64 a0_2) := (blk_cell BK498.out 2).trans rfl; have hcz19_3 : w6.cell? ⟨gb498, 3, none⟩ = some (.int .i64 a0_3) := (blk_cell BK498.out 3).trans rfl; have hcz19_4 : w6.cell? ⟨gb498, 4, none⟩ = some (.int .i64 a0_4) := (blk_cell BK498.out 4).trans rfl; have hcz19_5 : w6.cell? ⟨gb498, 5, none⟩ = some (.int .i64 a0_5) := (blk_cell BK498.out 5).trans rfl; have hcz19_6 : w6.cell? ⟨gb498, 6, none⟩ = some (.int .i64 a0_6) := (blk_cell BK498.out 6).trans rfl; have hcz19_7 : w6.cell? ⟨gb498, 7, none⟩ = some (.int .i64 a0_7) := (blk_cell BK498.out 7).trans rfl; have hcz19_8 : w6.cell? ⟨gb498, 8, none⟩ = some (.int .i64 a0_8) := (blk_cell BK498.out 8).trans rfl; have hcz19_9 : w6.cell? ⟨gb498, 9, none⟩ = some (.int .i64 a0_9) := (blk_cell BK498.out 9).trans rfl; have hcz19_10 : w6.cell? ⟨gb498, 10, none⟩ = some (.slice A0_10 l0_10.length c0_10) := (blk_cell BK498.out 10).trans rfl; have hfz19_0 := blk_frozen BK498.out 0; have hfz19_1 := blk_frozen BK498.out 1; have hfz19_2 := blk_frozen BK498.out 2; have hfz19_3 := blk_frozen BK498.out 3; have hfz19_4 := blk_frozen BK498.out 4; have hfz19_5 := blk_frozen BK498.out 5; have hfz19_6 := blk_frozen BK498.out 6; have hfz19_7 := blk_frozen BK498.out 7; have hfz19_8 := blk_frozen BK498.out 8; have hfz19_9 := blk_frozen BK498.out 9; have hfz19_10 := blk_frozen BK498.out 10) | (go_at_call 34; (with_reducible refine (bellwetherref03_Plain.calls k a0_0 a0_1 a0_2 a0_3 a0_4 a0_5 a0_6 a0_7 a0_8 a0_9 _ _ l0_10 t500 _ ?side1 ?side2 A9.out).mono ?_); (case side1 => repeat (first | exact (Kd.C_below HR0_10.out (by repeat (first | (with_reducible first | exact HB.out | apply below_alloc | apply pw_below_drewN | apply below_drew1 | refine below_set ?_ GE498.out) | exact HB.out))) | (with_reducible refine Kd.C_alloc ?_ _) | (with_reducible refine Kd.C_drewN ?_ _) | (with_reducible refine Kd.C_drew ?_))); (case side2 => exact HC0_10.out); rintro e w20 ⟨rfl, hb⟩; have n0_ := Aside0.mk (blk_below (g := gb498) (o := .cells #[.int .i64 a0_0, .int .i64 a0_1, .int .i64 a0_2, .int .i64 a0_3, .int .i64 a0_4, .int .i64 a0_5, .int .i64 a0_6, .int .i64 a0_7, .int .i64 a0_8, .int .i64 a0_9, .slice A0_10 l0_10.length c0_10] 42 (0, 0)) (by (with_reducible repeat (first | refine blk_drewN ?_ _ | refine blk_drew ?_ | refine blk_alloc ?_ _)); exact BK498.out) hb); have n1_ := Aside0.mk (below_step (by repeat (first | (with_reducible first | exact HB.out | apply below_alloc | apply pw_below_drewN | apply below_drew1 | refine below_set ?_ GE498.out) | exact HB.out)) hb); clear BK498; clear HB; have BK498 := n0_; have HB := n1_; clear n0_ n1_; (try clear hb); (try clear hb2); (try clear hk); (try clear hi)))
    go_meet
    case rel => exact ⟨_, (true), (by first | rfl | (simp; done) | (simp [*]; done)), H', ⟨by first | omega | exact Nat.le_refl _⟩, ⟨by (with_reducible repeat (first | refine blk_drewN ?_ _ | refine blk_drew ?_ | refine blk_alloc ?_ _)); exact BK498.out⟩, ⟨by repeat (first | (with_reducible first | exact HB.out | apply below_alloc | apply pw_below_drewN | apply below_drew1 | refine below_set ?_ GE498.out) | exact HB.out)⟩⟩
  ·
   replace c8 := Bool.eq_false_iff.mpr c8
   subst c8
   have H1 : (bellwetherlaw37_WindowApart.j0 k l1 l2 a3 true a0_0 a0_1 a0_2 a0_3 a0_4 a0_5 a0_6 a0_7 a0_8 a0_9 l0_10) = some r := by rw [if_neg (show ¬ (false = true) by decide)] at H; exact H
   clear H
   have H := H1
   clear H1
   have H' := Aside0.mk H
   clear H
   go_wp2_with (first | ((with_reducible refine gate_callee (f := 9) rfl ?_); refine goesL_ (some 16) rfl rfl Try.func9 (by kernel_rfl) rfl #[.slice A1 l1.length c1, .int .i64 200] rfl (by (try simp only [List.map_toArray, List.map_cons, List.map_nil]); first | done | rfl | (simp only [List.length_drop, List.length_take]; rfl)) ?_; (with_reducible refine (bellwetherref36_Few.calls k _ _ l1 200 false _ ?side1 ?side2 A7.out).mono ?_); (case side1 => repeat (first | exact (Kd.C_below HR1.out HB.out) | (with_reducible refine Kd.C_alloc ?_ _) | (with_reducible refine Kd.C_drewN ?_ _) | (with_reducible refine Kd.C_drew ?_))); (case side2 => exact HC1.out); rintro e w' ⟨rfl, ⟨nd, rfl⟩⟩; refine ⟨_, rfl, ?_⟩))
   go_meet
   case rel => exact ⟨_, (true), (by first | rfl | (simp; done) | (simp [*]; done)), H', ⟨by first | omega | exact Nat.le_refl _⟩, ⟨by (with_reducible repeat (first | refine blk_drewN ?_ _ | refine blk_drew ?_ | refine blk_alloc ?_ _)); exact BK498.out⟩, ⟨by repeat (first | (with_reducible first | exact HB.out | apply below_alloc | apply pw_below_drewN | apply below_drew1 | refine below_set ?_ GE498.out) | exact HB.out)⟩⟩
 case rest =>
  clear HC5
  try clear c1
  try clear c2
  try clear p2
  try clear c8
  try clear c9
  try clear c10
  try clear c10b0
  try clear c10b1
  try clear c11
  try clear c11b0
  try clear c11b1
  try clear c11b2
  try clear c14
  try clear c14b0
  try clear c14b1
  try clear hcz12_0
  try clear hcz12_1
  try clear hcz12_10
  try clear hcz12_2
  try clear hcz12_3
  try clear hcz12_4
  try clear hcz12_5
  try clear hcz12_6
  try clear hcz12_7
  try clear hcz12_8
  try clear hcz12_9
  try clear hcz15_0
  try clear hcz15_1
  try clear hcz15_10
  try clear hcz15_2
  try clear hcz15_3
  try clear hcz15_4
  try clear hcz15_5
  try clear hcz15_6
  try clear hcz15_7
  try clear hcz15_8
  try clear hcz15_9
  try clear hcz17_0
  try clear hcz17_1
  try clear hcz17_10
  try clear hcz17_2
  try clear hcz17_3
  try clear hcz17_4
  try clear hcz17_5
  try clear hcz17_6
  try clear hcz17_7
  try clear hcz17_8
  try clear hcz17_9
  try clear hcz19_0
  try clear hcz19_1
  try clear hcz19_10
  try clear hcz19_2
  try clear hcz19_3
  try clear hcz19_4
  try clear hcz19_5
  try clear hcz19_6
  try clear hcz19_7
  try clear hcz19_8
  try clear hcz19_9
  try clear hfz12_0
  try clear hfz12_1
  try clear hfz12_10
  try clear hfz12_2
  try clear hfz12_3
  try clear hfz12_4
  try clear hfz12_5
  try clear hfz12_6
  try clear hfz12_7
  try clear hfz12_8
  try clear hfz12_9
  try clear hfz15_0
  try clear hfz15_1
  try clear hfz15_10
  try clear hfz15_2
  try clear hfz15_3
  try clear hfz15_4
  try clear hfz15_5
  try clear hfz15_6
  try clear hfz15_7
  try clear hfz15_8
  try clear hfz15_9
  try clear hfz17_0
  try clear hfz17_1
  try clear hfz17_10
  try clear hfz17_2
  try clear hfz17_3
  try clear hfz17_4
  try clear hfz17_5
  try clear hfz17_6
  try clear hfz17_7
  try clear hfz17_8
  try clear hfz17_9
  try clear hfz19_0
  try clear hfz19_1
  try clear hfz19_10
  try clear hfz19_2
  try clear hfz19_3
  try clear hfz19_4
  try clear hfz19_5
  try clear hfz19_6
  try clear hfz19_7
  try clear hfz19_8
  try clear hfz19_9
  obtain ⟨kq, x36_4, rfl, HA, HJ4, BK498, HB⟩ := hcut
  cases kq with
  | zero => exact absurd HA.out (by simp [bellwetherlaw37_WindowApart.j0])
  | succ kj4 =>
   have H := HA.out
   clear HA
   simp only [bellwetherlaw37_WindowApart.j0] at H
   by_cases c21 : x36_4 = true
   ·
    subst c21
    have H1 : ((bellwetherlaw37_known.f kj4).bind fun t501 => (some t501)) = some r := by rw [if_pos rfl] at H; exact H
    clear H
    have H := H1
    clear H1
    replace H := Option.bind_eq_some_iff.mp H
    obtain ⟨t501, A220, H⟩ := H
    replace H : (some t501) = some r := H
    have A22 := Aside0.mk A220
    clear A220
    obtain rfl := Option.some.inj H
    go_wp2_with (first | ((with_reducible refine gate_callee (f := 25) rfl ?_); refine goesL_ (some 37) rfl rfl Try.func25 (by kernel_rfl) rfl #[] rfl (by (try simp only [List.map_toArray, List.map_cons, List.map_nil]); first | done | rfl | (simp only [List.length_drop, List.length_take]; rfl)) ?_; (with_reducible refine (bellwetherlaw37_known.calls kj4  t501 _ A22.out).mono ?_); rintro e w23 ⟨rfl, hb⟩; refine ⟨_, rfl, ?_⟩; have n0_ := Aside0.mk (blk_below (g := gb498) (o := .cells #[.int .i64 a0_0, .int .i64 a0_1, .int .i64 a0_2, .int .i64 a0_3, .int .i64 a0_4, .int .i64 a0_5, .int .i64 a0_6, .int .i64 a0_7, .int .i64 a0_8, .int .i64 a0_9, .slice A0_10 l0_10.length c0_10] 42 (0, 0)) (by (with_reducible repeat (first | refine blk_drewN ?_ _ | refine blk_drew ?_ | refine blk_alloc ?_ _)); exact BK498.out) hb); have n1_ := Aside0.mk (below_step (by repeat (first | (with_reducible first | exact HB.out | apply below_alloc | apply pw_below_drewN | apply below_drew1 | refine below_set ?_ GE498.out) | exact HB.out)) hb); clear BK498; clear HB; have BK498 := n0_; have HB := n1_; clear n0_ n1_; (try clear hb); (try clear hb2); (try clear hk); (try clear hi)))
    go_ret
    exact ⟨by first | rfl | (simp [errW_none, errW_some] <;> rfl) | (simp [*, errW_none, errW_some] <;> rfl), by repeat (first | (with_reducible first | exact HB.out | apply below_alloc | apply pw_below_drewN | apply below_drew1 | refine below_set ?_ GE498.out) | exact HB.out)⟩
   ·
    replace c21 := Bool.eq_false_iff.mpr c21
    subst c21
    have H1 : (bellwetherlaw37_WindowApart.l0 kj4 l1 l2 a3 true 0 a0_0 a0_1 a0_2 a0_3 a0_4 a0_5 a0_6 a0_7 a0_8 a0_9 l0_10) = some r := by rw [if_neg (show ¬ (false = true) by decide)] at H; exact H
    clear H
    have H := H1
    clear H1
    have H' := Aside0.mk H
    clear H
    go_wp2
    go_loopg [9, 10] kj4 (fun kq v9 v10 w' => ∃ (x9_2 : Bool) (x10_2 : Int), v9 = .bool x9_2 ∧ v10 = .int .i64 x10_2 ∧ Aside0 (bellwetherlaw37_WindowApart.l0 kq l1 l2 a3 x9_2 x10_2 a0_0 a0_1 a0_2 a0_3 a0_4 a0_5 a0_6 a0_7 a0_8 a0_9 l0_10 = some r) ∧ Aside0 (kq ≤ kj4) ∧ Aside0 (w'.heap[gb498]? = some (.cells #[.int .i64 a0_0, .int .i64 a0_1, .int .i64 a0_2, .int .i64 a0_3, .int .i64 a0_4, .int .i64 a0_5, .int .i64 a0_6, .int .i64 a0_7, .int .i64 a0_8, .int .i64 a0_9, (.slice A0_10 l0_10.length c0_10)] 42 (0, 0))) ∧ Aside0 (Below w.heap.size w w'))
    case atStart => exact ⟨(true), (0), (by first | rfl | (simp; done) | (simp [*]; done)), (by first | rfl | (simp; done) | (simp [*]; done)), H', ⟨Nat.le_refl _⟩, ⟨by (with_reducible repeat (first | refine blk_drewN ?_ _ | refine blk_drew ?_ | refine blk_alloc ?_ _)); exact BK498.out⟩, ⟨by repeat (first | (with_reducible first | exact HB.out | apply below_alloc | apply pw_below_drewN | apply below_drew1 | refine below_set ?_ GE498.out) | exact HB.out)⟩⟩
    case round =>
     clear H'
     try clear c1
     try clear c2
     try clear p2
     try clear c8
     try clear c9
     try clear c10
     try clear c10b0
     try clear c10b1
     try clear c11
     try clear c11b0
     try clear c11b1
     try clear c11b2
     try clear c14
     try clear c14b0
     try clear c14b1
     try clear c21
     try clear hcz12_0
     try clear hcz12_1
     try clear hcz12_10
     try clear hcz12_2
     try clear hcz12_3
     try clear hcz12_4
     try clear hcz12_5
     try clear hcz12_6
     try clear hcz12_7
     try clear hcz12_8
     try clear hcz12_9
     try clear hcz15_0
     try clear hcz15_1
     try clear hcz15_10
     try clear hcz15_2
     try clear hcz15_3
     try clear hcz15_4
     try clear hcz15_5
     try clear hcz15_6
     try clear hcz15_7
     try clear hcz15_8
     try clear hcz15_9
     try clear hcz17_0
     try clear hcz17_1
     try clear hcz17_10
     try clear hcz17_2
     try clear hcz17_3
     try clear hcz17_4
     try clear hcz17_5
     try clear hcz17_6
     try clear hcz17_7
     try clear hcz17_8
     try clear hcz17_9
     try clear hcz19_0
     try clear hcz19_1
     try clear hcz19_10
     try clear hcz19_2
     try clear hcz19_3
     try clear hcz19_4
     try clear hcz19_5
     try clear hcz19_6
     try clear hcz19_7
     try clear hcz19_8
     try clear hcz19_9
     try clear hfz12_0
     try clear hfz12_1
     try clear hfz12_10
     try clear hfz12_2
     try clear hfz12_3
     try clear hfz12_4
     try clear hfz12_5
     try clear hfz12_6
     try clear hfz12_7
     try clear hfz12_8
     try clear hfz12_9
     try clear hfz15_0
     try clear hfz15_1
     try clear hfz15_10
     try clear hfz15_2
     try clear hfz15_3
     try clear hfz15_4
     try clear hfz15_5
     try clear hfz15_6
     try clear hfz15_7
     try clear hfz15_8
     try clear hfz15_9
     try clear hfz17_0
     try clear hfz17_1
     try clear hfz17_10
     try clear hfz17_2
     try clear hfz17_3
     try clear hfz17_4
     try clear hfz17_5
     try clear hfz17_6
     try clear hfz17_7
     try clear hfz17_8
     try clear hfz17_9
     try clear hfz19_0
     try clear hfz19_1
     try clear hfz19_10
     try clear hfz19_2
     try clear hfz19_3
     try clear hfz19_4
     try clear hfz19_5
     try clear hfz19_6
     try clear hfz19_7
     try clear hfz19_8
     try clear hfz19_9
     try clear p2
     obtain ⟨x9_2, x10_2, rfl, rfl, HA, HK2, BK498, HB⟩ := hrel
     cases gk with
     | zero => exact absurd HA.out (by simp [bellwetherlaw37_WindowApart.l0])
     | succ k2 =>
      have H := HA.out
      clear HA
      simp only [bellwetherlaw37_WindowApart.l0] at H
      by_cases c24 : x10_2 < (l2.length : Int)
      ·
       rw [if_pos c24] at H
       have c24b0 : decide (x10_2 < (l2.length : Int)) = true := decide_eq_true c24
       clear c24
       have H' := Aside0.mk H
       clear H
       go_wp2
       go_loopg [9, 11, 12, 13] k2 (fun kq v9 v11 v12 v13 w' => ∃ (x9_3 : Bool) (x11_3 : Int) (x12_3 : Bool) (x13_3 : Int), v9 = .bool x9_3 ∧ v11 = .int .i64 x11_3 ∧ v12 = .bool x12_3 ∧ v13 = .int .i64 x13_3 ∧ Aside0 (bellwetherlaw37_WindowApart.l1 kq l1 l2 a3 x9_3 x10_2 x11_3 x12_3 x13_3 a0_0 a0_1 a0_2 a0_3 a0_4 a0_5 a0_6 a0_7 a0_8 a0_9 l0_10 = some r) ∧ Aside0 (kq ≤ k2) ∧ Aside0 (w'.heap[gb498]? = some (.cells #[.int .i64 a0_0, .int .i64 a0_1, .int .i64 a0_2, .int .i64 a0_3, .int .i64 a0_4, .int .i64 a0_5, .int .i64 a0_6, .int .i64 a0_7, .int .i64 a0_8, .int .i64 a0_9, (.slice A0_10 l0_10.length c0_10)] 42 (0, 0))) ∧ Aside0 (Below w.heap.size w w'))
       case atStart => exact ⟨(x9_2), (wrap64 (a3 - 1)), (true), (a3), (by first | rfl | (simp; done) | (simp [*]; done)), (by first | rfl | (simp; done) | (simp [*]; done)), (by first | rfl | (simp; done) | (simp [*]; done)), (by first | rfl | (simp; done) | (simp [*]; done)), H', ⟨Nat.le_refl _⟩, ⟨by (with_reducible repeat (first | refine blk_drewN ?_ _ | refine blk_drew ?_ | refine blk_alloc ?_ _)); exact BK498.out⟩, ⟨by repeat (first | (with_reducible first | exact HB.out | apply below_alloc | apply pw_below_drewN | apply below_drew1 | refine below_set ?_ GE498.out) | exact HB.out)⟩⟩
       case round =>
        clear H'
        try clear c1
        try clear c2
        try clear p2
        try clear p6
        try clear c8
        try clear c9
        try clear c10
        try clear c10b0
        try clear c10b1
        try clear c11
        try clear c11b0
        try clear c11b1
        try clear c11b2
        try clear c14
        try clear c14b0
        try clear c14b1
        try clear c21
        try clear c24
        try clear c24b0
        try clear hcz12_0
        try clear hcz12_1
        try clear hcz12_10
        try clear hcz12_2
        try clear hcz12_3
        try clear hcz12_4
        try clear hcz12_5
        try clear hcz12_6
        try clear hcz12_7
        try clear hcz12_8
        try clear hcz12_9
        try clear hcz15_0
        try clear hcz15_1
        try clear hcz15_10
        try clear hcz15_2
        try clear hcz15_3
        try clear hcz15_4
        try clear hcz15_5
        try clear hcz15_6
        try clear hcz15_7
        try clear hcz15_8
        try clear hcz15_9
        try clear hcz17_0
        try clear hcz17_1
        try clear hcz17_10
        try clear hcz17_2
        try clear hcz17_3
        try clear hcz17_4
        try clear hcz17_5
        try clear hcz17_6
        try clear hcz17_7
        try clear hcz17_8
        try clear hcz17_9
        try clear hcz19_0
        try clear hcz19_1
        try clear hcz19_10
        try clear hcz19_2
        try clear hcz19_3
        try clear hcz19_4
        try clear hcz19_5
        try clear hcz19_6
        try clear hcz19_7
        try clear hcz19_8
        try clear hcz19_9
        try clear hfz12_0
        try clear hfz12_1
        try clear hfz12_10
        try clear hfz12_2
        try clear hfz12_3
        try clear hfz12_4
        try clear hfz12_5
        try clear hfz12_6
        try clear hfz12_7
        try clear hfz12_8
        try clear hfz12_9
        try clear hfz15_0
        try clear hfz15_1
        try clear hfz15_10
        try clear hfz15_2
        try clear hfz15_3
        try clear hfz15_4
        try clear hfz15_5
        try clear hfz15_6
        try clear hfz15_7
        try clear hfz15_8
        try clear hfz15_9
        try clear hfz17_0
        try clear hfz17_1
        try clear hfz17_10
        try clear hfz17_2
        try clear hfz17_3
        try clear hfz17_4
        try clear hfz17_5
        try clear hfz17_6
        try clear hfz17_7
        try clear hfz17_8
        try clear hfz17_9
        try clear hfz19_0
        try clear hfz19_1
        try clear hfz19_10
        try clear hfz19_2
        try clear hfz19_3
        try clear hfz19_4
        try clear hfz19_5
        try clear hfz19_6
        try clear hfz19_7
        try clear hfz19_8
        try clear hfz19_9
        try clear p2
        obtain ⟨x9_3, x11_3, x12_3, x13_3, rfl, rfl, rfl, rfl, HA, HK3, BK498, HB⟩ := hrel
        cases gk with
        | zero => exact absurd HA.out (by simp [bellwetherlaw37_WindowApart.l1])
        | succ k3 =>
         have H := HA.out
         clear HA
         simp only [bellwetherlaw37_WindowApart.l1] at H
         by_cases c25 : x13_3 < (l1.length : Int)
         ·
          rw [if_pos c25] at H
          have c25b0 : decide (x13_3 < (l1.length : Int)) = true := decide_eq_true c25
          clear c25
          by_cases c26 : 0 ≤ x10_2
          ·
           rw [if_pos c26] at H
           have c26b0 : decide (0 ≤ x10_2) = true := decide_eq_true c26
           clear c26
           by_cases c27 : x10_2 < (l2.length : Int)
           ·
            rw [if_pos c27] at H
            have c27b0 : decide (x10_2 < (l2.length : Int)) = true := decide_eq_true c27
            clear c27
            replace H := Option.bind_eq_some_iff.mp H
            obtain ⟨⟨t505, t506, t507, t508, t509, t510, t511⟩, A280, H⟩ := H
            replace H : (if x9_3 = true then (if 0 < (l2.length : Int) then ((bellwetherref36_At.f l1 x13_3 (rd l2 0)).bind fun bt515 => (bellwetherlaw37_WindowApart.j3 k3 l1 l2 a3 (t505 == bt515.1) x10_2 x11_3 x12_3 x13_3 t505 a0_0 a0_1 a0_2 a0_3 a0_4 a0_5 a0_6 a0_7 a0_8 a0_9 l0_10)) else (none)) else (bellwetherlaw37_WindowApart.j3 k3 l1 l2 a3 false x10_2 x11_3 x12_3 x13_3 t505 a0_0 a0_1 a0_2 a0_3 a0_4 a0_5 a0_6 a0_7 a0_8 a0_9 l0_10)) = some r := H
            have A28 := Aside0.mk A280
            clear A280
            have HC29 := Aside0.mk H
            clear H
            have p504 : 0 ≤ (x10_2 : Int) := of_decide_eq_true (by first | (with_reducible assumption) | assumption)
            have q504 : x10_2 < (l2.length : Int) := of_decide_eq_true (by first | (with_reducible assumption) | assumption)
            obtain ⟨ad504, e504, hx504_0⟩ := Kd.at_int HR2.out x10_2 p504 q504
            cases e504
            replace hx504_0 := (HB.out.cell (World.block_lt_of_cell? w _ hx504_0)).trans hx504_0
            replace p504 := eq_true p504
            replace q504 := eq_true q504
            go_upto_region 13 with (first | ((with_reducible refine gate_callee (f := 13) rfl ?_); refine goesL_ (some 59) rfl rfl Try.func13 (by kernel_rfl) rfl #[.slice A1 l1.length c1, .int .i64 x13_3, .int .i64 (rd l2 x10_2)] rfl (by (try simp only [List.map_toArray, List.map_cons, List.map_nil]); first | done | rfl | (simp only [List.length_drop, List.length_take]; rfl)) ?_; (with_reducible refine (bellwetherref36_At.calls (fun k_ => k_ < w.heap.size) _ _ l1 x13_3 (rd l2 x10_2) t505 t506 t507 t508 t509 t510 t511 _ ?side1 A28.out).mono ?_); (case side1 => exact Kd.V_mk HC1.out (Kd.F_below (Kd.C_F (Kd.heap_slice 28 k28_heap) HR1.out) (by repeat (first | (with_reducible first | exact HB.out | apply below_alloc | apply pw_below_drewN | apply below_drew1 | refine below_set ?_ GE498.out) | exact HB.out)))); rintro e w30 ⟨v512, rfl, ho0, hb⟩; refine ⟨_, rfl, ?_⟩; have n0_ := Aside0.mk (Kd.V_lower (Kd.V_mono (ok' := fun k_ => k_ ≠ gb498) ho0 (fun k_ hk_ => Or.elim hk_ (fun hs_ => fun e_ => Nat.not_le.2 hs_ (by rw [e_]; exact GW498.out)) (fun hn_ => (Kd.freshB (g := gb498) (o := .cells #[.int .i64 a0_0, .int .i64 a0_1, .int .i64 a0_2, .int .i64 a0_3, .int .i64 a0_4, .int .i64 a0_5, .int .i64 a0_6, .int .i64 a0_7, .int .i64 a0_8, .int .i64 a0_9, .slice A0_10 l0_10.length c0_10] 42 (0, 0)) (by (with_reducible repeat (first | refine blk_drewN ?_ _ | refine blk_drew ?_ | refine blk_alloc ?_ _)); exact BK498.out) k_ hn_)))) (below_size (by repeat (first | (with_reducible first | exact HB.out | apply below_alloc | apply pw_below_drewN | apply below_drew1 | refine below_set ?_ GE498.out) | exact HB.out)))); have n1_ := Aside0.mk (blk_below (g := gb498) (o := .cells #[.int .i64 a0_0, .int .i64 a0_1, .int .i64 a0_2, .int .i64 a0_3, .int .i64 a0_4, .int .i64 a0_5, .int .i64 a0_6, .int .i64 a0_7, .int .i64 a0_8, .int .i64 a0_9, .slice A0_10 l0_10.length c0_10] 42 (0, 0)) (by (with_reducible repeat (first | refine blk_drewN ?_ _ | refine blk_drew ?_ | refine blk_alloc ?_ _)); exact BK498.out) hb); have n2_ := Aside0.mk (below_step (by repeat (first | (with_reducible first | exact HB.out | apply below_alloc | apply pw_below_drewN | apply below_drew1 | refine below_set ?_ GE498.out) | exact HB.out)) hb); clear BK498; clear HB; have HO513 := n0_; have BK498 := n1_; have HB := n2_; clear n0_ n1_ n2_; (try clear hb); (try clear hb2); (try clear hk); (try clear hi); (try clear ho0)))
            (try simp only [Act.put, List.setIfInBounds_toArray, List.set_cons_zero, List.set_cons_succ])
            go_cut [9] (fun v9 wc => ∃ (kq : Nat) (x9_28 : Bool), v9 = .bool x9_28 ∧ Aside0 (bellwetherlaw37_WindowApart.j3 kq l1 l2 a3 x9_28 x10_2 x11_3 x12_3 x13_3 t505 a0_0 a0_1 a0_2 a0_3 a0_4 a0_5 a0_6 a0_7 a0_8 a0_9 l0_10 = some r) ∧ Aside0 (kq ≤ k3) ∧ Aside0 (wc.heap[gb498]? = some (.cells #[.int .i64 a0_0, .int .i64 a0_1, .int .i64 a0_2, .int .i64 a0_3, .int .i64 a0_4, .int .i64 a0_5, .int .i64 a0_6, .int .i64 a0_7, .int .i64 a0_8, .int .i64 a0_9, (.slice A0_10 l0_10.length c0_10)] 42 (0, 0))) ∧ Aside0 (Below w.heap.size w wc))
            case first =>
             have H := HC29.out
             clear HC29
             by_cases c31 : x9_3 = true
             ·
              subst c31
              have H1 : (if 0 < (l2.length : Int) then ((bellwetherref36_At.f l1 x13_3 (rd l2 0)).bind fun bt515 => (bellwetherlaw37_WindowApart.j3 k3 l1 l2 a3 (t505 == bt515.1) x10_2 x11_3 x12_3 x13_3 t505 a0_0 a0_1 a0_2 a0_3 a0_4 a0_5 a0_6 a0_7 a0_8 a0_9 l0_10)) else (none)) = some r := by rw [if_pos rfl] at H; exact H
              clear H
              have H := H1
              clear H1
              by_cases c32 : 0 < (l2.length : Int)
              ·
               rw [if_pos c32] at H
               have c32b0 : decide (0 < (l2.length : Int)) = true := decide_eq_true c32
               have c32b1 : decide (0 < l2.length) = true := decide_eq_true (by omega)
               clear c32
               (first | rw [c32b0] | (simp only [i64_w, i32_w]; rw [c32b0]) | skip)
               replace H := Option.bind_eq_some_iff.mp H
               obtain ⟨⟨t515, t516, t517, t518, t519, t520, t521⟩, A330, H⟩ := H
               replace H : (bellwetherlaw37_WindowApart.j3 k3 l1 l2 a3 (t505 == t515) x10_2 x11_3 x12_3 x13_3 t505 a0_0 a0_1 a0_2 a0_3 a0_4 a0_5 a0_6 a0_7 a0_8 a0_9 l0_10) = some r := H
               have A33 := Aside0.mk A330
               clear A330
               have H' := Aside0.mk H
               clear H
               have p514 : 0 ≤ (0 : Int) := (by omega)
               have q514 : 0 < (l2.length : Int) := of_decide_eq_true (by first | (with_reducible assumption) | assumption)
               obtain ⟨ad514, e514, hx514_0⟩ := Kd.at_int HR2.out 0 p514 q514
               obtain rfl : ad504 = ad514 := (by injection e514)
               have qi514 : (0 < l2.length) = True := eq_true (by omega)
               (try rw [show ((0 : Int)).toNat = 0 from rfl] at hx514_0)
               (try rw [Addr.add_zero'] at hx514_0)
               replace hx514_0 := (HB.out.cell (World.block_lt_of_cell? w _ hx514_0)).trans hx514_0
               replace p514 := eq_true p514
               replace q514 := eq_true q514
               go_wp2_with (first | (go_at_call 13; (with_reducible refine (bellwetherref36_At.calls (fun k_ => k_ < w.heap.size) _ _ l1 x13_3 (rd l2 0) t515 t516 t517 t518 t519 t520 t521 _ ?side1 A33.out).mono ?_); (case side1 => exact Kd.V_mk HC1.out (Kd.F_below (Kd.C_F (Kd.heap_slice 28 k28_heap) HR1.out) (by repeat (first | (with_reducible first | exact HB.out | apply below_alloc | apply pw_below_drewN | apply below_drew1 | refine below_set ?_ GE498.out) | exact HB.out)))); rintro e w34 ⟨v522, rfl, ho0, hb⟩; have n0_ := Aside0.mk (Kd.V_below (by (with_reducible repeat (first | apply Kd.V_alloc | apply Kd.V_drewN | apply Kd.V_drew)); exact HO513.out) hb); have n1_ := Aside0.mk (Kd.V_lower (Kd.V_mono (ok' := fun k_ => k_ ≠ gb498) ho0 (fun k_ hk_ => Or.elim hk_ (fun hs_ => fun e_ => Nat.not_le.2 hs_ (by rw [e_]; exact GW498.out)) (fun hn_ => (Kd.freshB (g := gb498) (o := .cells #[.int .i64 a0_0, .int .i64 a0_1, .int .i64 a0_2, .int .i64 a0_3, .int .i64 a0_4, .int .i64 a0_5, .int .i64 a0_6, .int .i64 a0_7, .int .i64 a0_8, .int .i64 a0_9, .slice A0_10 l0_10.length c0_10] 42 (0, 0)) (by (with_reducible repeat (first | refine blk_drewN ?_ _ | refine blk_drew ?_ | refine blk_alloc ?_ _)); exact BK498.out) k_ hn_)))) (below_size (by repeat (first | (with_reducible first | exact HB.out | apply below_alloc | apply pw_below_drewN | apply below_drew1 | refine below_set ?_ GE498.out) | exact HB.out)))); have n2_ := Aside0.mk (blk_below (g := gb498) (o := .cells #[.int .i64 a0_0, .int .i64 a0_1, .int .i64 a0_2, .int .i64 a0_3, .int .i64 a0_4, .int .i64 a0_5, .int .i64 a0_6, .int .i64 a0_7, .int .i64 a0_8, .int .i64 a0_9, .slice A0_10 l0_10.length c0_10] 42 (0, 0)) (by (with_reducible repeat (first | refine blk_drewN ?_ _ | refine blk_drew ?_ | refine blk_alloc ?_ _)); exact BK498.out) hb); have n3_ := Aside0.mk (below_step (by repeat (first | (with_reducible first | exact HB.out | apply below_alloc | apply pw_below_drewN | apply below_drew1 | refine below_set ?_ GE498.out) | exact HB.out)) hb); clear HO513; clear BK498; clear HB; have HO513 := n0_; have HO523 := n1_; have BK498 := n2_; have HB := n3_; clear n0_ n1_ n2_ n3_; (try clear hb); (try clear hb2); (try clear hk); (try clear hi); (try clear ho0)))
               go_meet
               case rel => exact ⟨_, ((t505 == t515)), (by first | rfl | (simp; done) | (simp [*]; done)), H', ⟨by have := HJ4.out; have := HK2.out; have := HK3.out; first | omega | exact Nat.le_refl _⟩, ⟨by (with_reducible repeat (first | refine blk_drewN ?_ _ | refine blk_drew ?_ | refine blk_alloc ?_ _)); exact BK498.out⟩, ⟨by repeat (first | (with_reducible first | exact HB.out | apply below_alloc | apply pw_below_drewN | apply below_drew1 | refine below_set ?_ GE498.out) | exact HB.out)⟩⟩
              ·
               rw [if_neg c32] at H
               exact absurd H (by simp)
             ·
              replace c31 := Bool.eq_false_iff.mpr c31
              subst c31
              have H1 : (bellwetherlaw37_WindowApart.j3 k3 l1 l2 a3 false x10_2 x11_3 x12_3 x13_3 t505 a0_0 a0_1 a0_2 a0_3 a0_4 a0_5 a0_6 a0_7 a0_8 a0_9 l0_10) = some r := by rw [if_neg (show ¬ (false = true) by decide)] at H; exact H
              clear H
              have H := H1
              clear H1
              have H' := Aside0.mk H
              clear H
              go_wp2
              go_meet
              case rel => exact ⟨_, (false), (by first | rfl | (simp; done) | (simp [*]; done)), H', ⟨by have := HJ4.out; have := HK2.out; have := HK3.out; first | omega | exact Nat.le_refl _⟩, ⟨by (with_reducible repeat (first | refine blk_drewN ?_ _ | refine blk_drew ?_ | refine blk_alloc ?_ _)); exact BK498.out⟩, ⟨by repeat (first | (with_reducible first | exact HB.out | apply below_alloc | apply pw_below_drewN | apply below_drew1 | refine below_set ?_ GE498.out) | exact HB.out)⟩⟩
            case rest =>
             clear HC29
             try clear c1
             try clear c2
             try clear p2
             try clear c3
             try clear p5
             try clear q5
             try clear hx5
             try clear qi5
             try clear p6
             try clear c8
             try clear c9
             try clear c10
             try clear c10b0
             try clear c10b1
             try clear c11
             try clear c11b0
             try clear c11b1
             try clear c11b2
             try clear c13
             try clear c14
             try clear c14b0
             try clear c14b1
             try clear c21
             try clear c24
             try clear c24b0
             try clear c25
             try clear c25b0
             try clear c26
             try clear c26b0
             try clear c27
             try clear c27b0
             try clear c31
             try clear c32
             try clear c32b0
             try clear c32b1
             try clear hcz12_0
             try clear hcz12_1
             try clear hcz12_10
             try clear hcz12_2
             try clear hcz12_3
             try clear hcz12_4
             try clear hcz12_5
             try clear hcz12_6
             try clear hcz12_7
             try clear hcz12_8
             try clear hcz12_9
             try clear hcz15_0
             try clear hcz15_1
             try clear hcz15_10
             try clear hcz15_2
             try clear hcz15_3
             try clear hcz15_4
             try clear hcz15_5
             try clear hcz15_6
             try clear hcz15_7
             try clear hcz15_8
             try clear hcz15_9
             try clear hcz17_0
             try clear hcz17_1
             try clear hcz17_10
             try clear hcz17_2
             try clear hcz17_3
             try clear hcz17_4
             try clear hcz17_5
             try clear hcz17_6
             try clear hcz17_7
             try clear hcz17_8
             try clear hcz17_9
             try clear hcz19_0
             try clear hcz19_1
             try clear hcz19_10
             try clear hcz19_2
             try clear hcz19_3
             try clear hcz19_4
             try clear hcz19_5
             try clear hcz19_6
             try clear hcz19_7
             try clear hcz19_8
             try clear hcz19_9
             try clear hfz12_0
             try clear hfz12_1
             try clear hfz12_10
             try clear hfz12_2
             try clear hfz12_3
             try clear hfz12_4
             try clear hfz12_5
             try clear hfz12_6
             try clear hfz12_7
             try clear hfz12_8
             try clear hfz12_9
             try clear hfz15_0
             try clear hfz15_1
             try clear hfz15_10
             try clear hfz15_2
             try clear hfz15_3
             try clear hfz15_4
             try clear hfz15_5
             try clear hfz15_6
             try clear hfz15_7
             try clear hfz15_8
             try clear hfz15_9
             try clear hfz17_0
             try clear hfz17_1
             try clear hfz17_10
             try clear hfz17_2
             try clear hfz17_3
             try clear hfz17_4
             try clear hfz17_5
             try clear hfz17_6
             try clear hfz17_7
             try clear hfz17_8
             try clear hfz17_9
             try clear hfz19_0
             try clear hfz19_1
             try clear hfz19_10
             try clear hfz19_2
             try clear hfz19_3
             try clear hfz19_4
             try clear hfz19_5
             try clear hfz19_6
             try clear hfz19_7
             try clear hfz19_8
             try clear hfz19_9
             try clear hx504_0
             try clear hx514_0
             try clear p2
             try clear p504
             try clear p514
             try clear p6
             try clear q504
             try clear q514
             obtain ⟨kq, x9_28, rfl, HA, HJ28, BK498, HB⟩ := hcut
             cases kq with
             | zero => exact absurd HA.out (by simp [bellwetherlaw37_WindowApart.j3])
             | succ kj28 =>
              have H := HA.out
              clear HA
              simp only [bellwetherlaw37_WindowApart.j3] at H
              have HC35 := Aside0.mk H
              clear H
              go_upto_region 14 with (fail)
              go_cut [77] (fun v77 wc => ∃ (kq : Nat) (x77_34 : Bool), v77 = .bool x77_34 ∧ Aside0 (bellwetherlaw37_WindowApart.j4 kq l1 l2 a3 x9_28 x10_2 x11_3 x12_3 x13_3 t505 x77_34 a0_0 a0_1 a0_2 a0_3 a0_4 a0_5 a0_6 a0_7 a0_8 a0_9 l0_10 = some r) ∧ Aside0 (kq ≤ kj28) ∧ Aside0 (wc.heap[gb498]? = some (.cells #[.int .i64 a0_0, .int .i64 a0_1, .int .i64 a0_2, .int .i64 a0_3, .int .i64 a0_4, .int .i64 a0_5, .int .i64 a0_6, .int .i64 a0_7, .int .i64 a0_8, .int .i64 a0_9, (.slice A0_10 l0_10.length c0_10)] 42 (0, 0))) ∧ Aside0 (Below w.heap.size w wc))
              case first =>
               have H := HC35.out
               clear HC35
               by_cases c36 : t505 = true
               ·
                subst c36
                have H1 : (bellwetherlaw37_WindowApart.j4 kj28 l1 l2 a3 x9_28 x10_2 x11_3 x12_3 x13_3 true (!x12_3) a0_0 a0_1 a0_2 a0_3 a0_4 a0_5 a0_6 a0_7 a0_8 a0_9 l0_10) = some r := by rw [if_pos rfl] at H; exact H
                clear H
                have H := H1
                clear H1
                have H' := Aside0.mk H
                clear H
                go_wp2
                go_meet
                case rel => exact ⟨_, (!x12_3), (by first | rfl | (simp; done) | (simp [*]; done)), H', ⟨by have := HJ4.out; have := HK2.out; have := HK3.out; have := HJ28.out; first | omega | exact Nat.le_refl _⟩, ⟨by (with_reducible repeat (first | refine blk_drewN ?_ _ | refine blk_drew ?_ | refine blk_alloc ?_ _)); exact BK498.out⟩, ⟨by repeat (first | (with_reducible first | exact HB.out | apply below_alloc | apply pw_below_drewN | apply below_drew1 | refine below_set ?_ GE498.out) | exact HB.out)⟩⟩
               ·
                replace c36 := Bool.eq_false_iff.mpr c36
                subst c36
                have H1 : (bellwetherlaw37_WindowApart.j4 kj28 l1 l2 a3 x9_28 x10_2 x11_3 x12_3 x13_3 false false a0_0 a0_1 a0_2 a0_3 a0_4 a0_5 a0_6 a0_7 a0_8 a0_9 l0_10) = some r := by rw [if_neg (show ¬ (false = true) by decide)] at H; exact H
                clear H
                have H := H1
                clear H1
                have H' := Aside0.mk H
                clear H
                go_wp2
                go_meet
                case rel => exact ⟨_, (false), (by first | rfl | (simp; done) | (simp [*]; done)), H', ⟨by have := HJ4.out; have := HK2.out; have := HK3.out; have := HJ28.out; first | omega | exact Nat.le_refl _⟩, ⟨by (with_reducible repeat (first | refine blk_drewN ?_ _ | refine blk_drew ?_ | refine blk_alloc ?_ _)); exact BK498.out⟩, ⟨by repeat (first | (with_reducible first | exact HB.out | apply below_alloc | apply pw_below_drewN | apply below_drew1 | refine below_set ?_ GE498.out) | exact HB.out)⟩⟩
              case rest =>
               clear HC35
               try clear c1
               try clear c2
               try clear p2
               try clear c3
               try clear p5
               try clear q5
               try clear hx5
               try clear qi5
               try clear p6
               try clear c8
               try clear c9
               try clear c10
               try clear c10b0
               try clear c10b1
               try clear c11
               try clear c11b0
               try clear c11b1
               try clear c11b2
               try clear c13
               try clear c14
               try clear c14b0
               try clear c14b1
               try clear c21
               try clear c24
               try clear c24b0
               try clear c25
               try clear c25b0
               try clear c26
               try clear c26b0
               try clear c27
               try clear c27b0
               try clear c31
               try clear c32
               try clear c32b0
               try clear c32b1
               try clear c36
               try clear hcz12_0
               try clear hcz12_1
               try clear hcz12_10
               try clear hcz12_2
               try clear hcz12_3
               try clear hcz12_4
               try clear hcz12_5
               try clear hcz12_6
               try clear hcz12_7
               try clear hcz12_8
               try clear hcz12_9
               try clear hcz15_0
               try clear hcz15_1
               try clear hcz15_10
               try clear hcz15_2
               try clear hcz15_3
               try clear hcz15_4
               try clear hcz15_5
               try clear hcz15_6
               try clear hcz15_7
               try clear hcz15_8
               try clear hcz15_9
               try clear hcz17_0
               try clear hcz17_1
               try clear hcz17_10
               try clear hcz17_2
               try clear hcz17_3
               try clear hcz17_4
               try clear hcz17_5
               try clear hcz17_6
               try clear hcz17_7
               try clear hcz17_8
               try clear hcz17_9
               try clear hcz19_0
               try clear hcz19_1
               try clear hcz19_10
               try clear hcz19_2
               try clear hcz19_3
               try clear hcz19_4
               try clear hcz19_5
               try clear hcz19_6
               try clear hcz19_7
               try clear hcz19_8
               try clear hcz19_9
               try clear hfz12_0
               try clear hfz12_1
               try clear hfz12_10
               try clear hfz12_2
               try clear hfz12_3
               try clear hfz12_4
               try clear hfz12_5
               try clear hfz12_6
               try clear hfz12_7
               try clear hfz12_8
               try clear hfz12_9
               try clear hfz15_0
               try clear hfz15_1
               try clear hfz15_10
               try clear hfz15_2
               try clear hfz15_3
               try clear hfz15_4
               try clear hfz15_5
               try clear hfz15_6
               try clear hfz15_7
               try clear hfz15_8
               try clear hfz15_9
               try clear hfz17_0
               try clear hfz17_1
               try clear hfz17_10
               try clear hfz17_2
               try clear hfz17_3
               try clear hfz17_4
               try clear hfz17_5
               try clear hfz17_6
               try clear hfz17_7
               try clear hfz17_8
               try clear hfz17_9
               try clear hfz19_0
               try clear hfz19_1
               try clear hfz19_10
               try clear hfz19_2
               try clear hfz19_3
               try clear hfz19_4
               try clear hfz19_5
               try clear hfz19_6
               try clear hfz19_7
               try clear hfz19_8
               try clear hfz19_9
               try clear hx504_0
               try clear hx514_0
               try clear p2
               try clear p5
               try clear p504
               try clear p514
               try clear p6
               try clear q5
               try clear q504
               try clear q514
               obtain ⟨kq, x77_34, rfl, HA, HJ34, BK498, HB⟩ := hcut
               cases kq with
               | zero => exact absurd HA.out (by simp [bellwetherlaw37_WindowApart.j4])
               | succ kj34 =>
                have H := HA.out
                clear HA
                simp only [bellwetherlaw37_WindowApart.j4] at H
                have HC37 := Aside0.mk H
                clear H
                go_upto_if 77 with (fail)
                go_cut [9] (fun v9 wc => ∃ (kq : Nat) (x9_36 : Bool), v9 = .bool x9_36 ∧ Aside0 (bellwetherlaw37_WindowApart.j5 kq l1 l2 a3 x9_36 x10_2 x11_3 x12_3 x13_3 t505 a0_0 a0_1 a0_2 a0_3 a0_4 a0_5 a0_6 a0_7 a0_8 a0_9 l0_10 = some r) ∧ Aside0 (kq ≤ kj34) ∧ Aside0 (wc.heap[gb498]? = some (.cells #[.int .i64 a0_0, .int .i64 a0_1, .int .i64 a0_2, .int .i64 a0_3, .int .i64 a0_4, .int .i64 a0_5, .int .i64 a0_6, .int .i64 a0_7, .int .i64 a0_8, .int .i64 a0_9, (.slice A0_10 l0_10.length c0_10)] 42 (0, 0))) ∧ Aside0 (Below w.heap.size w wc))
                case first =>
                 have H := HC37.out
                 clear HC37
                 by_cases c38 : x77_34 = true
                 ·
                  subst c38
                  have H1 : (if x9_28 = true then (bellwetherlaw37_WindowApart.j5 kj34 l1 l2 a3 ((wrap64 (x13_3 - x11_3)) == a0_3) x10_2 x11_3 x12_3 x13_3 t505 a0_0 a0_1 a0_2 a0_3 a0_4 a0_5 a0_6 a0_7 a0_8 a0_9 l0_10) else (bellwetherlaw37_WindowApart.j5 kj34 l1 l2 a3 false x10_2 x11_3 x12_3 x13_3 t505 a0_0 a0_1 a0_2 a0_3 a0_4 a0_5 a0_6 a0_7 a0_8 a0_9 l0_10)) = some r := by rw [if_pos rfl] at H; exact H
                  clear H
                  have H := H1
                  clear H1
                  by_cases c39 : x9_28 = true
                  ·
                   subst c39
                   have H1 : (bellwetherlaw37_WindowApart.j5 kj34 l1 l2 a3 ((wrap64 (x13_3 - x11_3)) == a0_3) x10_2 x11_3 x12_3 x13_3 t505 a0_0 a0_1 a0_2 a0_3 a0_4 a0_5 a0_6 a0_7 a0_8 a0_9 l0_10) = some r := by rw [if_pos rfl] at H; exact H
                   clear H
                   have H := H1
                   clear H1
                   have H' := Aside0.mk H
                   clear H
                   have hcz40_0 : wc.cell? ⟨gb498, 0, none⟩ = some (.int .i64 a0_0) := (blk_cell BK498.out 0).trans rfl
                   have hcz40_1 : wc.cell? ⟨gb498, 1, none⟩ = some (.int .i64 a0_1) := (blk_cell BK498.out 1).trans rfl
                   have hcz40_2 : wc.cell? ⟨gb498, 2, none⟩ = some (.int .i64 a0_2) := (blk_cell BK498.out 2).trans rfl
                   have hcz40_3 : wc.cell? ⟨gb498, 3, none⟩ = some (.int .i64 a0_3) := (blk_cell BK498.out 3).trans rfl
                   have hcz40_4 : wc.cell? ⟨gb498, 4, none⟩ = some (.int .i64 a0_4) := (blk_cell BK498.out 4).trans rfl
                   have hcz40_5 : wc.cell? ⟨gb498, 5, none⟩ = some (.int .i64 a0_5) := (blk_cell BK498.out 5).trans rfl
                   have hcz40_6 : wc.cell? ⟨gb498, 6, none⟩ = some (.int .i64 a0_6) := (blk_cell BK498.out 6).trans rfl
                   have hcz40_7 : wc.cell? ⟨gb498, 7, none⟩ = some (.int .i64 a0_7) := (blk_cell BK498.out 7).trans rfl
                   have hcz40_8 : wc.cell? ⟨gb498, 8, none⟩ = some (.int .i64 a0_8) := (blk_cell BK498.out 8).trans rfl
                   have hcz40_9 : wc.cell? ⟨gb498, 9, none⟩ = some (.int .i64 a0_9) := (blk_cell BK498.out 9).trans rfl
                   have hcz40_10 : wc.cell? ⟨gb498, 10, none⟩ = some (.slice A0_10 l0_10.length c0_10) := (blk_cell BK498.out 10).trans rfl
                   have hfz40_0 := blk_frozen BK498.out 0
                   have hfz40_1 := blk_frozen BK498.out 1
                   have hfz40_2 := blk_frozen BK498.out 2
                   have hfz40_3 := blk_frozen BK498.out 3
                   have hfz40_4 := blk_frozen BK498.out 4
                   have hfz40_5 := blk_frozen BK498.out 5
                   have hfz40_6 := blk_frozen BK498.out 6
                   have hfz40_7 := blk_frozen BK498.out 7
                   have hfz40_8 := blk_frozen BK498.out 8
                   have hfz40_9 := blk_frozen BK498.out 9
                   have hfz40_10 := blk_frozen BK498.out 10
                   go_wp2
                   go_meet
                   case rel => exact ⟨_, (((wrap64 (x13_3 - x11_3)) == a0_3)), (by first | rfl | (simp; done) | (simp [*]; done)), H', ⟨by have := HJ4.out; have := HK2.out; have := HK3.out; have := HJ28.out; have := HJ34.out; first | omega | exact Nat.le_refl _⟩, ⟨by (with_reducible repeat (first | refine blk_drewN ?_ _ | refine blk_drew ?_ | refine blk_alloc ?_ _)); exact BK498.out⟩, ⟨by repeat (first | (with_reducible first | exact HB.out | apply below_alloc | apply pw_below_drewN | apply below_drew1 | refine below_set ?_ GE498.out) | exact HB.out)⟩⟩
                  ·
                   replace c39 := Bool.eq_false_iff.mpr c39
                   subst c39
                   have H1 : (bellwetherlaw37_WindowApart.j5 kj34 l1 l2 a3 false x10_2 x11_3 x12_3 x13_3 t505 a0_0 a0_1 a0_2 a0_3 a0_4 a0_5 a0_6 a0_7 a0_8 a0_9 l0_10) = some r := by rw [if_neg (show ¬ (false = true) by decide)] at H; exact H
                   clear H
                   have H := H1
                   clear H1
                   have H' := Aside0.mk H
                   clear H
                   go_wp2
                   go_meet
                   case rel => exact ⟨_, (false), (by first | rfl | (simp; done) | (simp [*]; done)), H', ⟨by have := HJ4.out; have := HK2.out; have := HK3.out; have := HJ28.out; have := HJ34.out; first | omega | exact Nat.le_refl _⟩, ⟨by (with_reducible repeat (first | refine blk_drewN ?_ _ | refine blk_drew ?_ | refine blk_alloc ?_ _)); exact BK498.out⟩, ⟨by repeat (first | (with_reducible first | exact HB.out | apply below_alloc | apply pw_below_drewN | apply below_drew1 | refine below_set ?_ GE498.out) | exact HB.out)⟩⟩
                 ·
                  replace c38 := Bool.eq_false_iff.mpr c38
                  subst c38
                  have H1 : (bellwetherlaw37_WindowApart.j5 kj34 l1 l2 a3 x9_28 x10_2 x11_3 x12_3 x13_3 t505 a0_0 a0_1 a0_2 a0_3 a0_4 a0_5 a0_6 a0_7 a0_8 a0_9 l0_10) = some r := by rw [if_neg (show ¬ (false = true) by decide)] at H; exact H
                  clear H
                  have H := H1
                  clear H1
                  have H' := Aside0.mk H
                  clear H
                  go_wp2
                  go_meet
                  case rel => exact ⟨_, (x9_28), (by first | rfl | (simp; done) | (simp [*]; done)), H', ⟨by have := HJ4.out; have := HK2.out; have := HK3.out; have := HJ28.out; have := HJ34.out; first | omega | exact Nat.le_refl _⟩, ⟨by (with_reducible repeat (first | refine blk_drewN ?_ _ | refine blk_drew ?_ | refine blk_alloc ?_ _)); exact BK498.out⟩, ⟨by repeat (first | (with_reducible first | exact HB.out | apply below_alloc | apply pw_below_drewN | apply below_drew1 | refine below_set ?_ GE498.out) | exact HB.out)⟩⟩
                case rest =>
                 clear HC37
                 try clear c1
                 try clear c2
                 try clear p2
                 try clear c3
                 try clear p5
                 try clear q5
                 try clear hx5
                 try clear qi5
                 try clear p6
                 try clear c8
                 try clear c9
                 try clear c10
                 try clear c10b0
                 try clear c10b1
                 try clear c11
                 try clear c11b0
                 try clear c11b1
                 try clear c11b2
                 try clear c13
                 try clear c14
                 try clear c14b0
                 try clear c14b1
                 try clear c21
                 try clear c24
                 try clear c24b0
                 try clear c25
                 try clear c25b0
                 try clear c26
                 try clear c26b0
                 try clear c27
                 try clear c27b0
                 try clear c31
                 try clear c32
                 try clear c32b0
                 try clear c32b1
                 try clear c36
                 try clear c38
                 try clear c39
                 try clear hcz12_0
                 try clear hcz12_1
                 try clear hcz12_10
                 try clear hcz12_2
                 try clear hcz12_3
                 try clear hcz12_4
                 try clear hcz12_5
                 try clear hcz12_6
                 try clear hcz12_7
                 try clear hcz12_8
                 try clear hcz12_9
                 try clear hcz15_0
                 try clear hcz15_1
                 try clear hcz15_10
                 try clear hcz15_2
                 try clear hcz15_3
                 try clear hcz15_4
                 try clear hcz15_5
                 try clear hcz15_6
                 try clear hcz15_7
                 try clear hcz15_8
                 try clear hcz15_9
                 try clear hcz17_0
                 try clear hcz17_1
                 try clear hcz17_10
                 try clear hcz17_2
                 try clear hcz17_3
                 try clear hcz17_4
                 try clear hcz17_5
                 try clear hcz17_6
                 try clear hcz17_7
                 try clear hcz17_8
                 try clear hcz17_9
                 try clear hcz19_0
                 try clear hcz19_1
                 try clear hcz19_10
                 try clear hcz19_2
                 try clear hcz19_3
                 try clear hcz19_4
                 try clear hcz19_5
                 try clear hcz19_6
                 try clear hcz19_7
                 try clear hcz19_8
                 try clear hcz19_9
                 try clear hcz40_0
                 try clear hcz40_1
                 try clear hcz40_10
                 try clear hcz40_2
                 try clear hcz40_3
                 try clear hcz40_4
                 try clear hcz40_5
                 try clear hcz40_6
                 try clear hcz40_7
                 try clear hcz40_8
                 try clear hcz40_9
                 try clear hfz12_0
                 try clear hfz12_1
                 try clear hfz12_10
                 try clear hfz12_2
                 try clear hfz12_3
                 try clear hfz12_4
                 try clear hfz12_5
                 try clear hfz12_6
                 try clear hfz12_7
                 try clear hfz12_8
                 try clear hfz12_9
                 try clear hfz15_0
                 try clear hfz15_1
                 try clear hfz15_10
                 try clear hfz15_2
                 try clear hfz15_3
                 try clear hfz15_4
                 try clear hfz15_5
                 try clear hfz15_6
                 try clear hfz15_7
                 try clear hfz15_8
                 try clear hfz15_9
                 try clear hfz17_0
                 try clear hfz17_1
                 try clear hfz17_10
                 try clear hfz17_2
                 try clear hfz17_3
                 try clear hfz17_4
                 try clear hfz17_5
                 try clear hfz17_6
                 try clear hfz17_7
                 try clear hfz17_8
                 try clear hfz17_9
                 try clear hfz19_0
                 try clear hfz19_1
                 try clear hfz19_10
                 try clear hfz19_2
                 try clear hfz19_3
                 try clear hfz19_4
                 try clear hfz19_5
                 try clear hfz19_6
                 try clear hfz19_7
                 try clear hfz19_8
                 try clear hfz19_9
                 try clear hfz40_0
                 try clear hfz40_1
                 try clear hfz40_10
                 try clear hfz40_2
                 try clear hfz40_3
                 try clear hfz40_4
                 try clear hfz40_5
                 try clear hfz40_6
                 try clear hfz40_7
                 try clear hfz40_8
                 try clear hfz40_9
                 try clear hx504_0
                 try clear hx514_0
                 try clear p2
                 try clear p5
                 try clear p504
                 try clear p514
                 try clear p6
                 try clear q5
                 try clear q504
                 try clear q514
                 obtain ⟨kq, x9_36, rfl, HA, HJ36, BK498, HB⟩ := hcut
                 cases kq with
                 | zero => exact absurd HA.out (by simp [bellwetherlaw37_WindowApart.j5])
                 | succ kj36 =>
                  have H := HA.out
                  clear HA
                  simp only [bellwetherlaw37_WindowApart.j5] at H
                  have HC41 := Aside0.mk H
                  clear H
                  go_upto_if 87 with (fail)
                  go_cut [11, 12] (fun v11 v12 wc => ∃ (kq : Nat) (x11_40 : Int) (x12_40 : Bool), v11 = .int .i64 x11_40 ∧ v12 = .bool x12_40 ∧ Aside0 (bellwetherlaw37_WindowApart.j6 kq l1 l2 a3 x9_36 x10_2 x11_40 x12_40 x13_3 a0_0 a0_1 a0_2 a0_3 a0_4 a0_5 a0_6 a0_7 a0_8 a0_9 l0_10 = some r) ∧ Aside0 (kq ≤ kj36) ∧ Aside0 (wc.heap[gb498]? = some (.cells #[.int .i64 a0_0, .int .i64 a0_1, .int .i64 a0_2, .int .i64 a0_3, .int .i64 a0_4, .int .i64 a0_5, .int .i64 a0_6, .int .i64 a0_7, .int .i64 a0_8, .int .i64 a0_9, (.slice A0_10 l0_10.length c0_10)] 42 (0, 0))) ∧ Aside0 (Below w.heap.size w wc))
                  case first =>
                   have H := HC41.out
                   clear HC41
                   by_cases c42 : t505 = true
                   ·
                    subst c42
                    have H1 : (bellwetherlaw37_WindowApart.j6 kj36 l1 l2 a3 x9_36 x10_2 x13_3 false x13_3 a0_0 a0_1 a0_2 a0_3 a0_4 a0_5 a0_6 a0_7 a0_8 a0_9 l0_10) = some r := by rw [if_pos rfl] at H; exact H
                    clear H
                    have H := H1
                    clear H1
                    have H' := Aside0.mk H
                    clear H
                    go_wp2
                    go_meet
                    case rel => exact ⟨_, (x13_3), (false), (by first | rfl | (simp; done) | (simp [*]; done)), (by first | rfl | (simp; done) | (simp [*]; done)), H', ⟨by have := HJ4.out; have := HK2.out; have := HK3.out; have := HJ28.out; have := HJ34.out; have := HJ36.out; first | omega | exact Nat.le_refl _⟩, ⟨by (with_reducible repeat (first | refine blk_drewN ?_ _ | refine blk_drew ?_ | refine blk_alloc ?_ _)); exact BK498.out⟩, ⟨by repeat (first | (with_reducible first | exact HB.out | apply below_alloc | apply pw_below_drewN | apply below_drew1 | refine below_set ?_ GE498.out) | exact HB.out)⟩⟩
                   ·
                    replace c42 := Bool.eq_false_iff.mpr c42
                    subst c42
                    have H1 : (bellwetherlaw37_WindowApart.j6 kj36 l1 l2 a3 x9_36 x10_2 x11_3 x12_3 x13_3 a0_0 a0_1 a0_2 a0_3 a0_4 a0_5 a0_6 a0_7 a0_8 a0_9 l0_10) = some r := by rw [if_neg (show ¬ (false = true) by decide)] at H; exact H
                    clear H
                    have H := H1
                    clear H1
                    have H' := Aside0.mk H
                    clear H
                    go_wp2
                    go_meet
                    case rel => exact ⟨_, (x11_3), (x12_3), (by first | rfl | (simp; done) | (simp [*]; done)), (by first | rfl | (simp; done) | (simp [*]; done)), H', ⟨by have := HJ4.out; have := HK2.out; have := HK3.out; have := HJ28.out; have := HJ34.out; have := HJ36.out; first | omega | exact Nat.le_refl _⟩, ⟨by (with_reducible repeat (first | refine blk_drewN ?_ _ | refine blk_drew ?_ | refine blk_alloc ?_ _)); exact BK498.out⟩, ⟨by repeat (first | (with_reducible first | exact HB.out | apply below_alloc | apply pw_below_drewN | apply below_drew1 | refine below_set ?_ GE498.out) | exact HB.out)⟩⟩
                  case rest =>
                   clear HC41
                   try clear c1
                   try clear c2
                   try clear p2
                   try clear c3
                   try clear c4
                   try clear p5
                   try clear q5
                   try clear hx5
                   try clear qi5
                   try clear p6
                   try clear c8
                   try clear c9
                   try clear c10
                   try clear c10b0
                   try clear c10b1
                   try clear c11
                   try clear c11b0
                   try clear c11b1
                   try clear c11b2
                   try clear c13
                   try clear c14
                   try clear c14b0
                   try clear c14b1
                   try clear c21
                   try clear c24
                   try clear c24b0
                   try clear c25
                   try clear c25b0
                   try clear c26
                   try clear c26b0
                   try clear c27
                   try clear c27b0
                   try clear c31
                   try clear c32
                   try clear c32b0
                   try clear c32b1
                   try clear c36
                   try clear c38
                   try clear c39
                   try clear c42
                   try clear hcz12_0
                   try clear hcz12_1
                   try clear hcz12_10
                   try clear hcz12_2
                   try clear hcz12_3
                   try clear hcz12_4
                   try clear hcz12_5
                   try clear hcz12_6
                   try clear hcz12_7
                   try clear hcz12_8
                   try clear hcz12_9
                   try clear hcz15_0
                   try clear hcz15_1
                   try clear hcz15_10
                   try clear hcz15_2
                   try clear hcz15_3
                   try clear hcz15_4
                   try clear hcz15_5
                   try clear hcz15_6
                   try clear hcz15_7
                   try clear hcz15_8
                   try clear hcz15_9
                   try clear hcz17_0
                   try clear hcz17_1
                   try clear hcz17_10
                   try clear hcz17_2
                   try clear hcz17_3
                   try clear hcz17_4
                   try clear hcz17_5
                   try clear hcz17_6
                   try clear hcz17_7
                   try clear hcz17_8
                   try clear hcz17_9
                   try clear hcz19_0
                   try clear hcz19_1
                   try clear hcz19_10
                   try clear hcz19_2
                   try clear hcz19_3
                   try clear hcz19_4
                   try clear hcz19_5
                   try clear hcz19_6
                   try clear hcz19_7
                   try clear hcz19_8
                   try clear hcz19_9
                   try clear hcz40_0
                   try clear hcz40_1
                   try clear hcz40_10
                   try clear hcz40_2
                   try clear hcz40_3
                   try clear hcz40_4
                   try clear hcz40_5
                   try clear hcz40_6
                   try clear hcz40_7
                   try clear hcz40_8
                   try clear hcz40_9
                   try clear hfz12_0
                   try clear hfz12_1
                   try clear hfz12_10
                   try clear hfz12_2
                   try clear hfz12_3
                   try clear hfz12_4
                   try clear hfz12_5
                   try clear hfz12_6
                   try clear hfz12_7
                   try clear hfz12_8
                   try clear hfz12_9
                   try clear hfz15_0
                   try clear hfz15_1
                   try clear hfz15_10
                   try clear hfz15_2
                   try clear hfz15_3
                   try clear hfz15_4
                   try clear hfz15_5
                   try clear hfz15_6
                   try clear hfz15_7
                   try clear hfz15_8
                   try clear hfz15_9
                   try clear hfz17_0
                   try clear hfz17_1
                   try clear hfz17_10
                   try clear hfz17_2
                   try clear hfz17_3
                   try clear hfz17_4
                   try clear hfz17_5
                   try clear hfz17_6
                   try clear hfz17_7
                   try clear hfz17_8
                   try clear hfz17_9
                   try clear hfz19_0
                   try clear hfz19_1
                   try clear hfz19_10
                   try clear hfz19_2
                   try clear hfz19_3
                   try clear hfz19_4
                   try clear hfz19_5
                   try clear hfz19_6
                   try clear hfz19_7
                   try clear hfz19_8
                   try clear hfz19_9
                   try clear hfz40_0
                   try clear hfz40_1
                   try clear hfz40_10
                   try clear hfz40_2
                   try clear hfz40_3
                   try clear hfz40_4
                   try clear hfz40_5
                   try clear hfz40_6
                   try clear hfz40_7
                   try clear hfz40_8
                   try clear hfz40_9
                   try clear hx504_0
                   try clear hx514_0
                   try clear p2
                   try clear p5
                   try clear p504
                   try clear p514
                   try clear p6
                   try clear q5
                   try clear q504
                   try clear q514
                   obtain ⟨kq, x11_40, x12_40, rfl, rfl, HA, HJ40, BK498, HB⟩ := hcut
                   cases kq with
                   | zero => exact absurd HA.out (by simp [bellwetherlaw37_WindowApart.j6])
                   | succ kj40 =>
                    have H := HA.out
                    clear HA
                    simp only [bellwetherlaw37_WindowApart.j6] at H
                    by_cases c43 : x12_40 = true
                    ·
                     subst c43
                     have H1 : (if x9_36 = true then (bellwetherlaw37_WindowApart.l1 kj40 l1 l2 a3 (decide ((wrap64 ((wrap64 (x13_3 - a3)) + 1)) < a0_3)) x10_2 x11_40 true (wrap64 (x13_3 + 1)) a0_0 a0_1 a0_2 a0_3 a0_4 a0_5 a0_6 a0_7 a0_8 a0_9 l0_10) else (bellwetherlaw37_WindowApart.l1 kj40 l1 l2 a3 false x10_2 x11_40 true (wrap64 (x13_3 + 1)) a0_0 a0_1 a0_2 a0_3 a0_4 a0_5 a0_6 a0_7 a0_8 a0_9 l0_10)) = some r := by rw [if_pos rfl] at H; exact H
                     clear H
                     have H := H1
                     clear H1
                     by_cases c44 : x9_36 = true
                     ·
                      subst c44
                      have H1 : (bellwetherlaw37_WindowApart.l1 kj40 l1 l2 a3 (decide ((wrap64 ((wrap64 (x13_3 - a3)) + 1)) < a0_3)) x10_2 x11_40 true (wrap64 (x13_3 + 1)) a0_0 a0_1 a0_2 a0_3 a0_4 a0_5 a0_6 a0_7 a0_8 a0_9 l0_10) = some r := by rw [if_pos rfl] at H; exact H
                      clear H
                      have H := H1
                      clear H1
                      have H' := Aside0.mk H
                      clear H
                      have hcz45_0 : wc.cell? ⟨gb498, 0, none⟩ = some (.int .i64 a0_0) := (blk_cell BK498.out 0).trans rfl
                      have hcz45_1 : wc.cell? ⟨gb498, 1, none⟩ = some (.int .i64 a0_1) := (blk_cell BK498.out 1).trans rfl
                      have hcz45_2 : wc.cell? ⟨gb498, 2, none⟩ = some (.int .i64 a0_2) := (blk_cell BK498.out 2).trans rfl
                      have hcz45_3 : wc.cell? ⟨gb498, 3, none⟩ = some (.int .i64 a0_3) := (blk_cell BK498.out 3).trans rfl
                      have hcz45_4 : wc.cell? ⟨gb498, 4, none⟩ = some (.int .i64 a0_4) := (blk_cell BK498.out 4).trans rfl
                      have hcz45_5 : wc.cell? ⟨gb498, 5, none⟩ = some (.int .i64 a0_5) := (blk_cell BK498.out 5).trans rfl
                      have hcz45_6 : wc.cell? ⟨gb498, 6, none⟩ = some (.int .i64 a0_6) := (blk_cell BK498.out 6).trans rfl
                      have hcz45_7 : wc.cell? ⟨gb498, 7, none⟩ = some (.int .i64 a0_7) := (blk_cell BK498.out 7).trans rfl
                      have hcz45_8 : wc.cell? ⟨gb498, 8, none⟩ = some (.int .i64 a0_8) := (blk_cell BK498.out 8).trans rfl
                      have hcz45_9 : wc.cell? ⟨gb498, 9, none⟩ = some (.int .i64 a0_9) := (blk_cell BK498.out 9).trans rfl
                      have hcz45_10 : wc.cell? ⟨gb498, 10, none⟩ = some (.slice A0_10 l0_10.length c0_10) := (blk_cell BK498.out 10).trans rfl
                      have hfz45_0 := blk_frozen BK498.out 0
                      have hfz45_1 := blk_frozen BK498.out 1
                      have hfz45_2 := blk_frozen BK498.out 2
                      have hfz45_3 := blk_frozen BK498.out 3
                      have hfz45_4 := blk_frozen BK498.out 4
                      have hfz45_5 := blk_frozen BK498.out 5
                      have hfz45_6 := blk_frozen BK498.out 6
                      have hfz45_7 := blk_frozen BK498.out 7
                      have hfz45_8 := blk_frozen BK498.out 8
                      have hfz45_9 := blk_frozen BK498.out 9
                      have hfz45_10 := blk_frozen BK498.out 10
                      go_wp2
                      go_roundg kj40
                      case measure => have := HJ4.out; have := HK2.out; have := HK3.out; have := HJ28.out; have := HJ34.out; have := HJ36.out; have := HJ40.out; omega
                      case rel => exact ⟨(decide ((wrap64 ((wrap64 (x13_3 - a3)) + 1)) < a0_3)), (x11_40), (true), (wrap64 (x13_3 + 1)), (by first | rfl | (simp; done) | (simp [*]; done)), (by first | rfl | (simp; done) | (simp [*]; done)), (by first | rfl | (simp; done) | (simp [*]; done)), (by first | rfl | (simp; done) | (simp [*]; done)), H', ⟨by have := HJ4.out; have := HK2.out; have := HK3.out; have := HJ28.out; have := HJ34.out; have := HJ36.out; have := HJ40.out; omega⟩, ⟨by (with_reducible repeat (first | refine blk_drewN ?_ _ | refine blk_drew ?_ | refine blk_alloc ?_ _)); exact BK498.out⟩, ⟨by repeat (first | (with_reducible first | exact HB.out | apply below_alloc | apply pw_below_drewN | apply below_drew1 | refine below_set ?_ GE498.out) | exact HB.out)⟩⟩
                     ·
                      replace c44 := Bool.eq_false_iff.mpr c44
                      subst c44
                      have H1 : (bellwetherlaw37_WindowApart.l1 kj40 l1 l2 a3 false x10_2 x11_40 true (wrap64 (x13_3 + 1)) a0_0 a0_1 a0_2 a0_3 a0_4 a0_5 a0_6 a0_7 a0_8 a0_9 l0_10) = some r := by rw [if_neg (show ¬ (false = true) by decide)] at H; exact H
                      clear H
                      have H := H1
                      clear H1
                      have H' := Aside0.mk H
                      clear H
                      go_wp2
                      go_roundg kj40
                      case measure => have := HJ4.out; have := HK2.out; have := HK3.out; have := HJ28.out; have := HJ34.out; have := HJ36.out; have := HJ40.out; omega
                      case rel => exact ⟨(false), (x11_40), (true), (wrap64 (x13_3 + 1)), (by first | rfl | (simp; done) | (simp [*]; done)), (by first | rfl | (simp; done) | (simp [*]; done)), (by first | rfl | (simp; done) | (simp [*]; done)), (by first | rfl | (simp; done) | (simp [*]; done)), H', ⟨by have := HJ4.out; have := HK2.out; have := HK3.out; have := HJ28.out; have := HJ34.out; have := HJ36.out; have := HJ40.out; omega⟩, ⟨by (with_reducible repeat (first | refine blk_drewN ?_ _ | refine blk_drew ?_ | refine blk_alloc ?_ _)); exact BK498.out⟩, ⟨by repeat (first | (with_reducible first | exact HB.out | apply below_alloc | apply pw_below_drewN | apply below_drew1 | refine below_set ?_ GE498.out) | exact HB.out)⟩⟩
                    ·
                     replace c43 := Bool.eq_false_iff.mpr c43
                     subst c43
                     have H1 : (if x9_36 = true then (bellwetherlaw37_WindowApart.l1 kj40 l1 l2 a3 (decide ((wrap64 (x13_3 - x11_40)) < a0_3)) x10_2 x11_40 false (wrap64 (x13_3 + 1)) a0_0 a0_1 a0_2 a0_3 a0_4 a0_5 a0_6 a0_7 a0_8 a0_9 l0_10) else (bellwetherlaw37_WindowApart.l1 kj40 l1 l2 a3 false x10_2 x11_40 false (wrap64 (x13_3 + 1)) a0_0 a0_1 a0_2 a0_3 a0_4 a0_5 a0_6 a0_7 a0_8 a0_9 l0_10)) = some r := by rw [if_neg (show ¬ (false = true) by decide)] at H; exact H
                     clear H
                     have H := H1
                     clear H1
                     by_cases c46 : x9_36 = true
                     ·
                      subst c46
                      have H1 : (bellwetherlaw37_WindowApart.l1 kj40 l1 l2 a3 (decide ((wrap64 (x13_3 - x11_40)) < a0_3)) x10_2 x11_40 false (wrap64 (x13_3 + 1)) a0_0 a0_1 a0_2 a0_3 a0_4 a0_5 a0_6 a0_7 a0_8 a0_9 l0_10) = some r := by rw [if_pos rfl] at H; exact H
                      clear H
                      have H := H1
                      clear H1
                      have H' := Aside0.mk H
                      clear H
                      have hcz47_0 : wc.cell? ⟨gb498, 0, none⟩ = some (.int .i64 a0_0) := (blk_cell BK498.out 0).trans rfl
                      have hcz47_1 : wc.cell? ⟨gb498, 1, none⟩ = some (.int .i64 a0_1) := (blk_cell BK498.out 1).trans rfl
                      have hcz47_2 : wc.cell? ⟨gb498, 2, none⟩ = some (.int .i64 a0_2) := (blk_cell BK498.out 2).trans rfl
                      have hcz47_3 : wc.cell? ⟨gb498, 3, none⟩ = some (.int .i64 a0_3) := (blk_cell BK498.out 3).trans rfl
                      have hcz47_4 : wc.cell? ⟨gb498, 4, none⟩ = some (.int .i64 a0_4) := (blk_cell BK498.out 4).trans rfl
                      have hcz47_5 : wc.cell? ⟨gb498, 5, none⟩ = some (.int .i64 a0_5) := (blk_cell BK498.out 5).trans rfl
                      have hcz47_6 : wc.cell? ⟨gb498, 6, none⟩ = some (.int .i64 a0_6) := (blk_cell BK498.out 6).trans rfl
                      have hcz47_7 : wc.cell? ⟨gb498, 7, none⟩ = some (.int .i64 a0_7) := (blk_cell BK498.out 7).trans rfl
                      have hcz47_8 : wc.cell? ⟨gb498, 8, none⟩ = some (.int .i64 a0_8) := (blk_cell BK498.out 8).trans rfl
                      have hcz47_9 : wc.cell? ⟨gb498, 9, none⟩ = some (.int .i64 a0_9) := (blk_cell BK498.out 9).trans rfl
                      have hcz47_10 : wc.cell? ⟨gb498, 10, none⟩ = some (.slice A0_10 l0_10.length c0_10) := (blk_cell BK498.out 10).trans rfl
                      have hfz47_0 := blk_frozen BK498.out 0
                      have hfz47_1 := blk_frozen BK498.out 1
                      have hfz47_2 := blk_frozen BK498.out 2
                      have hfz47_3 := blk_frozen BK498.out 3
                      have hfz47_4 := blk_frozen BK498.out 4
                      have hfz47_5 := blk_frozen BK498.out 5
                      have hfz47_6 := blk_frozen BK498.out 6
                      have hfz47_7 := blk_frozen BK498.out 7
                      have hfz47_8 := blk_frozen BK498.out 8
                      have hfz47_9 := blk_frozen BK498.out 9
                      have hfz47_10 := blk_frozen BK498.out 10
                      go_wp2
                      go_roundg kj40
                      case measure => have := HJ4.out; have := HK2.out; have := HK3.out; have := HJ28.out; have := HJ34.out; have := HJ36.out; have := HJ40.out; omega
                      case rel => exact ⟨(decide ((wrap64 (x13_3 - x11_40)) < a0_3)), (x11_40), (false), (wrap64 (x13_3 + 1)), (by first | rfl | (simp; done) | (simp [*]; done)), (by first | rfl | (simp; done) | (simp [*]; done)), (by first | rfl | (simp; done) | (simp [*]; done)), (by first | rfl | (simp; done) | (simp [*]; done)), H', ⟨by have := HJ4.out; have := HK2.out; have := HK3.out; have := HJ28.out; have := HJ34.out; have := HJ36.out; have := HJ40.out; omega⟩, ⟨by (with_reducible repeat (first | refine blk_drewN ?_ _ | refine blk_drew ?_ | refine blk_alloc ?_ _)); exact BK498.out⟩, ⟨by repeat (first | (with_reducible first | exact HB.out | apply below_alloc | apply pw_below_drewN | apply below_drew1 | refine below_set ?_ GE498.out) | exact HB.out)⟩⟩
                     ·
                      replace c46 := Bool.eq_false_iff.mpr c46
                      subst c46
                      have H1 : (bellwetherlaw37_WindowApart.l1 kj40 l1 l2 a3 false x10_2 x11_40 false (wrap64 (x13_3 + 1)) a0_0 a0_1 a0_2 a0_3 a0_4 a0_5 a0_6 a0_7 a0_8 a0_9 l0_10) = some r := by rw [if_neg (show ¬ (false = true) by decide)] at H; exact H
                      clear H
                      have H := H1
                      clear H1
                      have H' := Aside0.mk H
                      clear H
                      go_wp2
                      go_roundg kj40
                      case measure => have := HJ4.out; have := HK2.out; have := HK3.out; have := HJ28.out; have := HJ34.out; have := HJ36.out; have := HJ40.out; omega
                      case rel => exact ⟨(false), (x11_40), (false), (wrap64 (x13_3 + 1)), (by first | rfl | (simp; done) | (simp [*]; done)), (by first | rfl | (simp; done) | (simp [*]; done)), (by first | rfl | (simp; done) | (simp [*]; done)), (by first | rfl | (simp; done) | (simp [*]; done)), H', ⟨by have := HJ4.out; have := HK2.out; have := HK3.out; have := HJ28.out; have := HJ34.out; have := HJ36.out; have := HJ40.out; omega⟩, ⟨by (with_reducible repeat (first | refine blk_drewN ?_ _ | refine blk_drew ?_ | refine blk_alloc ?_ _)); exact BK498.out⟩, ⟨by repeat (first | (with_reducible first | exact HB.out | apply below_alloc | apply pw_below_drewN | apply below_drew1 | refine below_set ?_ GE498.out) | exact HB.out)⟩⟩
           ·
            rw [if_neg c27] at H
            exact absurd H (by simp)
          ·
           rw [if_neg c26] at H
           exact absurd H (by simp)
         ·
          rw [if_neg c25] at H
          have c25b0 : decide (x13_3 < (l1.length : Int)) = false := decide_eq_false c25
          clear c25
          have H' := Aside0.mk H
          clear H
          go_wp2
          go_roundg k3
          case measure => have := HJ4.out; have := HK2.out; have := HK3.out; omega
          case rel => exact ⟨(x9_3), (wrap64 (x10_2 + 1)), (by first | rfl | (simp; done) | (simp [*]; done)), (by first | rfl | (simp; done) | (simp [*]; done)), H', ⟨by have := HJ4.out; have := HK2.out; have := HK3.out; omega⟩, ⟨by (with_reducible repeat (first | refine blk_drewN ?_ _ | refine blk_drew ?_ | refine blk_alloc ?_ _)); exact BK498.out⟩, ⟨by repeat (first | (with_reducible first | exact HB.out | apply below_alloc | apply pw_below_drewN | apply below_drew1 | refine below_set ?_ GE498.out) | exact HB.out)⟩⟩
      ·
       rw [if_neg c24] at H
       have c24b0 : decide (x10_2 < (l2.length : Int)) = false := decide_eq_false c24
       clear c24
       replace H := Option.bind_eq_some_iff.mp H
       obtain ⟨t502, A480, H⟩ := H
       replace H : (if ((t502 == 0) == x9_2) = true then ((bellwetherlaw37_known.f k2).bind fun t503 => (some t503)) else (some false)) = some r := H
       have A48 := Aside0.mk A480
       clear A480
       by_cases c49 : ((t502 == 0) == x9_2) = true
       ·
        rw [if_pos c49] at H
        have c49b0 : ((t502 == 0) == x9_2) = true := c49
        (try (have c49b1 : decide ((t502 == 0) = x9_2) = true := by simpa using c49))
        (try (have c49b2 : ((t502 == 0) == x9_2) = true := by simpa using c49))
        clear c49
        replace H := Option.bind_eq_some_iff.mp H
        obtain ⟨t503, A500, H⟩ := H
        replace H : (some t503) = some r := H
        have A50 := Aside0.mk A500
        clear A500
        obtain rfl := Option.some.inj H
        have hcz51_0 : wr.cell? ⟨gb498, 0, none⟩ = some (.int .i64 a0_0) := (blk_cell BK498.out 0).trans rfl
        have hcz51_1 : wr.cell? ⟨gb498, 1, none⟩ = some (.int .i64 a0_1) := (blk_cell BK498.out 1).trans rfl
        have hcz51_2 : wr.cell? ⟨gb498, 2, none⟩ = some (.int .i64 a0_2) := (blk_cell BK498.out 2).trans rfl
        have hcz51_3 : wr.cell? ⟨gb498, 3, none⟩ = some (.int .i64 a0_3) := (blk_cell BK498.out 3).trans rfl
        have hcz51_4 : wr.cell? ⟨gb498, 4, none⟩ = some (.int .i64 a0_4) := (blk_cell BK498.out 4).trans rfl
        have hcz51_5 : wr.cell? ⟨gb498, 5, none⟩ = some (.int .i64 a0_5) := (blk_cell BK498.out 5).trans rfl
        have hcz51_6 : wr.cell? ⟨gb498, 6, none⟩ = some (.int .i64 a0_6) := (blk_cell BK498.out 6).trans rfl
        have hcz51_7 : wr.cell? ⟨gb498, 7, none⟩ = some (.int .i64 a0_7) := (blk_cell BK498.out 7).trans rfl
        have hcz51_8 : wr.cell? ⟨gb498, 8, none⟩ = some (.int .i64 a0_8) := (blk_cell BK498.out 8).trans rfl
        have hcz51_9 : wr.cell? ⟨gb498, 9, none⟩ = some (.int .i64 a0_9) := (blk_cell BK498.out 9).trans rfl
        have hcz51_10 : wr.cell? ⟨gb498, 10, none⟩ = some (.slice A0_10 l0_10.length c0_10) := (blk_cell BK498.out 10).trans rfl
        have hfz51_0 := blk_frozen BK498.out 0
        have hfz51_1 := blk_frozen BK498.out 1
        have hfz51_2 := blk_frozen BK498.out 2
        have hfz51_3 := blk_frozen BK498.out 3
        have hfz51_4 := blk_frozen BK498.out 4
        have hfz51_5 := blk_frozen BK498.out 5
        have hfz51_6 := blk_frozen BK498.out 6
        have hfz51_7 := blk_frozen BK498.out 7
        have hfz51_8 := blk_frozen BK498.out 8
        have hfz51_9 := blk_frozen BK498.out 9
        have hfz51_10 := blk_frozen BK498.out 10
        go_wp2_with (first | ((with_reducible refine gate_callee (f := 28) rfl ?_); refine goesL_ (some 115) rfl rfl Try.func28 (by kernel_rfl) rfl #[.agg #[.int .i64 a0_0, .int .i64 a0_1, .int .i64 a0_2, .int .i64 a0_3, .int .i64 a0_4, .int .i64 a0_5, .int .i64 a0_6, .int .i64 a0_7, .int .i64 a0_8, .int .i64 a0_9, .slice A0_10 l0_10.length c0_10], .slice A1 l1.length c1, .slice A2 l2.length c2, .int .i64 a3] rfl (by (try simp only [List.map_toArray, List.map_cons, List.map_nil]); first | done | rfl | (simp only [List.length_drop, List.length_take]; rfl)) ?_; (with_reducible refine (window_Regular.calls k2 a0_0 a0_1 a0_2 a0_3 a0_4 a0_5 a0_6 a0_7 a0_8 a0_9 _ _ l0_10 _ _ l1 _ _ l2 a3 t502 _ ?side1 ?side2 ?side3 ?side4 ?side5 ?side6 A48.out).mono ?_); (case side1 => repeat (first | exact (Kd.C_below HR0_10.out HB.out) | (with_reducible refine Kd.C_alloc ?_ _) | (with_reducible refine Kd.C_drewN ?_ _) | (with_reducible refine Kd.C_drew ?_))); (case side2 => exact HC0_10.out); (case side3 => repeat (first | exact (Kd.C_below HR1.out HB.out) | (with_reducible refine Kd.C_alloc ?_ _) | (with_reducible refine Kd.C_drewN ?_ _) | (with_reducible refine Kd.C_drew ?_))); (case side4 => exact HC1.out); (case side5 => repeat (first | exact (Kd.C_below HR2.out HB.out) | (with_reducible refine Kd.C_alloc ?_ _) | (with_reducible refine Kd.C_drewN ?_ _) | (with_reducible refine Kd.C_drew ?_))); (case side6 => exact HC2.out); rintro e w52 ⟨rfl, hb⟩; refine ⟨_, rfl, ?_⟩; have n0_ := Aside0.mk (blk_below (g := gb498) (o := .cells #[.int .i64 a0_0, .int .i64 a0_1, .int .i64 a0_2, .int .i64 a0_3, .int .i64 a0_4, .int .i64 a0_5, .int .i64 a0_6, .int .i64 a0_7, .int .i64 a0_8, .int .i64 a0_9, .slice A0_10 l0_10.length c0_10] 42 (0, 0)) (by (with_reducible repeat (first | refine blk_drewN ?_ _ | refine blk_drew ?_ | refine blk_alloc ?_ _)); exact BK498.out) hb); have n1_ := Aside0.mk (below_step (by repeat (first | (with_reducible first | exact HB.out | apply below_alloc | apply pw_below_drewN | apply below_drew1 | refine below_set ?_ GE498.out) | exact HB.out)) hb); clear BK498; clear HB; have BK498 := n0_; have HB := n1_; clear n0_ n1_; (try clear hb); (try clear hb2); (try clear hk); (try clear hi)) | (go_at_call 25; (with_reducible refine (bellwetherlaw37_known.calls k2  t503 _ A50.out).mono ?_); rintro e w53 ⟨rfl, hb⟩; have n0_ := Aside0.mk (blk_below (g := gb498) (o := .cells #[.int .i64 a0_0, .int .i64 a0_1, .int .i64 a0_2, .int .i64 a0_3, .int .i64 a0_4, .int .i64 a0_5, .int .i64 a0_6, .int .i64 a0_7, .int .i64 a0_8, .int .i64 a0_9, .slice A0_10 l0_10.length c0_10] 42 (0, 0)) (by (with_reducible repeat (first | refine blk_drewN ?_ _ | refine blk_drew ?_ | refine blk_alloc ?_ _)); exact BK498.out) hb); have n1_ := Aside0.mk (below_step (by repeat (first | (with_reducible first | exact HB.out | apply below_alloc | apply pw_below_drewN | apply below_drew1 | refine below_set ?_ GE498.out) | exact HB.out)) hb); clear BK498; clear HB; have BK498 := n0_; have HB := n1_; clear n0_ n1_; (try clear hb); (try clear hb2); (try clear hk); (try clear hi)))
        go_ret
        exact ⟨by first | rfl | (simp [errW_none, errW_some] <;> rfl) | (simp [*, errW_none, errW_some] <;> rfl), by repeat (first | (with_reducible first | exact HB.out | apply below_alloc | apply pw_below_drewN | apply below_drew1 | refine below_set ?_ GE498.out) | exact HB.out)⟩
       ·
        rw [if_neg c49] at H
        have c49b0 : ((t502 == 0) == x9_2) = false := by simpa using c49
        (try (have c49b1 : decide ((t502 == 0) = x9_2) = false := by simpa using c49))
        (try (have c49b2 : ((t502 == 0) == x9_2) = false := by simpa using c49))
        (try (have c49b3 : ¬ ((t502 == 0) = x9_2) := by simpa using c49))
        clear c49
        (have H3_ := Option.some.inj H; have H4_ := hT.out; rw [← H3_] at H4_; exact absurd H4_ (by decide))
end Go.Proofs.Ytmdnmofcgmmfbaa.X
