import Derived.Test.YtfannnojhkkaiaaYKingAgrees11
import Derived.Test.YtfannnojhkkaiaaYKingAgrees27
import Derived.Test.YtfannnojhkkaiaaYKingAgrees29
import Derived.Test.YtfannnojhkkaiaaYKingAgrees32
import Derived.Test.YtfannnojhkkaiaaYKingAgrees35
namespace Go.Proofs.Ytfannnojhkkaiaa.X
open Go.RowKit Go.Proofs.YtfannnojhkkaiaaW.PrintWords Go.Proofs.YtfannnojhkkaiaaW.PrintLast Go.Proofs.YtfannnojhkkaiaaW.PrintMore
attribute [local go_sem] max2_int min2_int max_two min_two max_three min_three max_four min_four   -- for this text's walks alone
set_option linter.unusedVariables false
set_option linter.unusedSimpArgs false
def bellwetherlaw14_KingAgrees.l0 : Nat → List Int → List Int → Int → Int → Int → Int → Int → Int → Int → Int → Int → Int → Int → Int → List Int → Option (Bool)
 | 0, _, _, _, _, _, _, _, _, _, _, _, _, _, _, _ => none
 | k + 1, x2, x9, x10, x11, x319000, x319001, x319002, x319003, x319004, x319005, x319006, x319007, x319008, x319009, x319010 => if x11 < x319000 then ((bellwetherref14_In.f k x2 x11).bind fun t325 => (if t325 = true then (bellwetherlaw14_KingAgrees.l0 k x2 x9 x10 (wrap64 (x11 + 1)) x319000 x319001 x319002 x319003 x319004 x319005 x319006 x319007 x319008 x319009 x319010) else (if 0 ≤ x11 then (if x11 < (x9.length : Int) then (if (rd x9 x11) = 0 then (if x10 ≥ 0 then (if (rd x9 x11) = x10 then (bellwetherlaw14_KingAgrees.l0 k x2 x9 (rd x9 x11) (wrap64 (x11 + 1)) x319000 x319001 x319002 x319003 x319004 x319005 x319006 x319007 x319008 x319009 x319010) else (some false)) else (bellwetherlaw14_KingAgrees.l0 k x2 x9 (rd x9 x11) (wrap64 (x11 + 1)) x319000 x319001 x319002 x319003 x319004 x319005 x319006 x319007 x319008 x319009 x319010)) else (if (rd x9 x11) = 1 then (if x10 ≥ 0 then (if (rd x9 x11) = x10 then (bellwetherlaw14_KingAgrees.l0 k x2 x9 (rd x9 x11) (wrap64 (x11 + 1)) x319000 x319001 x319002 x319003 x319004 x319005 x319006 x319007 x319008 x319009 x319010) else (some false)) else (bellwetherlaw14_KingAgrees.l0 k x2 x9 (rd x9 x11) (wrap64 (x11 + 1)) x319000 x319001 x319002 x319003 x319004 x319005 x319006 x319007 x319008 x319009 x319010)) else (some false))) else (none)) else (none)))) else (if x10 ≥ 0 then ((bellwetherlaw14_known.f k).bind fun t324 => (some t324)) else (some false))
def bellwetherlaw14_KingAgrees.f (k : Nat) (a0_0 : Int) (a0_1 : Int) (a0_2 : Int) (a0_3 : Int) (a0_4 : Int) (a0_5 : Int) (a0_6 : Int) (a0_7 : Int) (a0_8 : Int) (a0_9 : Int) (l0_10 : List Int) (l1 : List Int) (l2 : List Int) (l3 : List Int) : Option (Bool) := (bellwetherlaw14_few.f k a0_0 a0_1 a0_2 a0_3 a0_4 a0_5 a0_6 a0_7 a0_8 a0_9 l0_10 l2).bind fun t319 => (if t319 = true then ((king_Play.f k a0_0 a0_1 a0_2 a0_3 a0_4 a0_5 a0_6 a0_7 a0_8 a0_9 l0_10 l1 l2 l3).bind fun t321 => (if (t321.length : Int) = a0_0 then (bellwetherlaw14_KingAgrees.l0 k l2 t321 (-1) 0 a0_0 a0_1 a0_2 a0_3 a0_4 a0_5 a0_6 a0_7 a0_8 a0_9 l0_10) else (some false))) else ((bellwetherlaw14_known.f k).bind fun t320 => (some t320)))
set_option maxHeartbeats 8000000 in
set_option maxRecDepth 100000 in
theorem bellwetherlaw14_KingAgrees.calls (k : Nat) (a0_0 : Int) (a0_1 : Int) (a0_2 : Int) (a0_3 : Int) (a0_4 : Int) (a0_5 : Int) (a0_6 : Int) (a0_7 : Int) (a0_8 : Int) (a0_9 : Int) (A0_10 : Option Addr) (c0_10 : Nat) (l0_10 : List Int) (A1 : Option Addr) (c1 : Nat) (l1 : List Int) (A2 : Option Addr) (c2 : Nat) (l2 : List Int) (A3 : Option Addr) (c3 : Nat) (l3 : List Int) (r : Bool) (w : World) (hr0_10 : Kd.C (Kd.int .i64) w A0_10 l0_10.length l0_10) (hc0_10 : l0_10.length ≤ c0_10) (hr1 : Kd.C (Kd.int .i64) w A1 l1.length l1) (hc1 : l1.length ≤ c1) (hr2 : Kd.C (Kd.int .i64) w A2 l2.length l2) (hc2 : l2.length ≤ c2) (hr3 : Kd.C (Kd.int .i64) w A3 l3.length l3) (hc3 : l3.length ≤ c3) (h : bellwetherlaw14_KingAgrees.f k a0_0 a0_1 a0_2 a0_3 a0_4 a0_5 a0_6 a0_7 a0_8 a0_9 l0_10 l1 l2 l3 = some r) (hT : Aside0 (r = true) := by first | exact ⟨rfl⟩ | assumption) :
  Calls Try.prog 13 #[.agg #[.int .i64 a0_0, .int .i64 a0_1, .int .i64 a0_2, .int .i64 a0_3, .int .i64 a0_4, .int .i64 a0_5, .int .i64 a0_6, .int .i64 a0_7, .int .i64 a0_8, .int .i64 a0_9, .slice A0_10 l0_10.length c0_10], .slice A1 l1.length c1, .slice A2 l2.length c2, .slice A3 l3.length c3] w fun e w' => e = .returned (.bool r) ∧ Below w.heap.size w w' := by
 have hu24 := Try.underlying24
 have HR0_10 := Aside0.mk hr0_10
 have HC0_10 := Aside0.mk hc0_10
 clear hr0_10 hc0_10
 have HR1 := Aside0.mk hr1
 have HC1 := Aside0.mk hc1
 clear hr1 hc1
 have HR2 := Aside0.mk hr2
 have HC2 := Aside0.mk hc2
 clear hr2 hc2
 have HR3 := Aside0.mk hr3
 have HC3 := Aside0.mk hc3
 clear hr3 hc3
 have HB := Aside0.mk (Below.refl w.heap.size w)
 have H : ((bellwetherlaw14_few.f k a0_0 a0_1 a0_2 a0_3 a0_4 a0_5 a0_6 a0_7 a0_8 a0_9 l0_10 l2).bind fun t319 => (if t319 = true then ((king_Play.f k a0_0 a0_1 a0_2 a0_3 a0_4 a0_5 a0_6 a0_7 a0_8 a0_9 l0_10 l1 l2 l3).bind fun t321 => (if (t321.length : Int) = a0_0 then (bellwetherlaw14_KingAgrees.l0 k l2 t321 (-1) 0 a0_0 a0_1 a0_2 a0_3 a0_4 a0_5 a0_6 a0_7 a0_8 a0_9 l0_10) else (some false))) else ((bellwetherlaw14_known.f k).bind fun t320 => (some t320)))) = some r := h
 clear h
 replace H := Option.bind_eq_some_iff.mp H
 obtain ⟨t319, A50, H⟩ := H
 replace H : (if t319 = true then ((king_Play.f k a0_0 a0_1 a0_2 a0_3 a0_4 a0_5 a0_6 a0_7 a0_8 a0_9 l0_10 l1 l2 l3).bind fun t321 => (if (t321.length : Int) = a0_0 then (bellwetherlaw14_KingAgrees.l0 k l2 t321 (-1) 0 a0_0 a0_1 a0_2 a0_3 a0_4 a0_5 a0_6 a0_7 a0_8 a0_9 l0_10) else (some false))) else ((bellwetherlaw14_known.f k).bind fun t320 => (some t320))) = some r := H
 have A5 := Aside0.mk A50
 clear A50
 by_cases c6 : t319 = true
 ·
  subst c6
  have H1 : ((king_Play.f k a0_0 a0_1 a0_2 a0_3 a0_4 a0_5 a0_6 a0_7 a0_8 a0_9 l0_10 l1 l2 l3).bind fun t321 => (if (t321.length : Int) = a0_0 then (bellwetherlaw14_KingAgrees.l0 k l2 t321 (-1) 0 a0_0 a0_1 a0_2 a0_3 a0_4 a0_5 a0_6 a0_7 a0_8 a0_9 l0_10) else (some false))) = some r := by rw [if_pos rfl] at H; exact H
  clear H
  have H := H1
  clear H1
  replace H := Option.bind_eq_some_iff.mp H
  obtain ⟨t321, A70, H⟩ := H
  replace H : (if (t321.length : Int) = a0_0 then (bellwetherlaw14_KingAgrees.l0 k l2 t321 (-1) 0 a0_0 a0_1 a0_2 a0_3 a0_4 a0_5 a0_6 a0_7 a0_8 a0_9 l0_10) else (some false)) = some r := H
  have A7 := Aside0.mk A70
  clear A70
  by_cases c8 : (t321.length : Int) = a0_0
  ·
   rw [if_pos c8] at H
   have c8b0 : ((t321.length : Int) == a0_0) = true := beq_iff_eq.mpr c8
   have c8b1 : ((t321.length : Int) != a0_0) = false := bne_eq_false_iff_eq.mpr c8
   clear c8
   have H' := Aside0.mk H
   clear H
   go_enter Try.func13, Try.ntmps13
   go_wp2_with (first | ((with_reducible refine gate_dst (N := 4) rfl ?_); refine box_event ?hg (N := 4) ?hd (cs := #[.int .i64 a0_0, .int .i64 a0_1, .int .i64 a0_2, .int .i64 a0_3, .int .i64 a0_4, .int .i64 a0_5, .int .i64 a0_6, .int .i64 a0_7, .int .i64 a0_8, .int .i64 a0_9, .slice A0_10 l0_10.length c0_10]) (t := 24) ?hr ?_; (case hd => rfl); (case hg => rfl); (case hr => first | (go_simp; done) | (go_simp; rfl)); intro gb318 hg w9 hbox hb; have n0_ := Aside0.mk (below_step (by repeat (first | (with_reducible first | exact HB.out | apply below_alloc | apply pw_below_drewN | apply below_drew1) | exact HB.out)) hb); have n1_ := Aside0.mk (hbox); have n2_ := Aside0.mk ((by rw [hg]; exact (below_size (by repeat (first | (with_reducible first | exact HB.out | apply below_alloc | apply pw_below_drewN | apply below_drew1) | exact HB.out))) : w.heap.size ≤ gb318)); have n3_ := Aside0.mk ((by rw [hg]; exact (below_size (by repeat (first | (with_reducible first | exact HB.out | apply below_alloc | apply pw_below_drewN | apply below_drew1) | exact HB.out))) : w.heap.size ≤ gb318)); clear HB; have HB := n0_; have BK318 := n1_; have GW318 := n2_; have GE318 := n3_; clear n0_ n1_ n2_ n3_; clear hb hbox hg; have hcz10_0 : w9.cell? ⟨gb318, 0, none⟩ = some (.int .i64 a0_0) := (blk_cell BK318.out 0).trans rfl; have hcz10_1 : w9.cell? ⟨gb318, 1, none⟩ = some (.int .i64 a0_1) := (blk_cell BK318.out 1).trans rfl; have hcz10_2 : w9.cell? ⟨gb318, 2, none⟩ = some (.int .i64 a0_2) := (blk_cell BK318.out 2).trans rfl; have hcz10_3 : w9.cell? ⟨gb318, 3, none⟩ = some (.int .i64 a0_3) := (blk_cell BK318.out 3).trans rfl; have hcz10_4 : w9.cell? ⟨gb318, 4, none⟩ = some (.int .i64 a0_4) := (blk_cell BK318.out 4).trans rfl; have hcz10_5 : w9.cell? ⟨gb318, 5, none⟩ = some (.int .i64 a0_5) := (blk_cell BK318.out 5).trans rfl; have hcz10_6 : w9.cell? ⟨gb318, 6, none⟩ = some (.int .i64 a0_6) := (blk_cell BK318.out 6).trans rfl; have hcz10_7 : w9.cell? ⟨gb318, 7, none⟩ = some (.int .i64 a0_7) := (blk_cell BK318.out 7).trans rfl; have hcz10_8 : w9.cell? ⟨gb318, 8, none⟩ = some (.int .i64 a0_8) := (blk_cell BK318.out 8).trans rfl; have hcz10_9 : w9.cell? ⟨gb318, 9, none⟩ = some (.int .i64 a0_9) := (blk_cell BK318.out 9).trans rfl; have hcz10_10 : w9.cell? ⟨gb318, 10, none⟩ = some (.slice A0_10 l0_10.length c0_10) := (blk_cell BK318.out 10).trans rfl; have hfz10_0 := blk_frozen BK318.out 0; have hfz10_1 := blk_frozen BK318.out 1; have hfz10_2 := blk_frozen BK318.out 2; have hfz10_3 := blk_frozen BK318.out 3; have hfz10_4 := blk_frozen BK318.out 4; have hfz10_5 := blk_frozen BK318.out 5; have hfz10_6 := blk_frozen BK318.out 6; have hfz10_7 := blk_frozen BK318.out 7; have hfz10_8 := blk_frozen BK318.out 8; have hfz10_9 := blk_frozen BK318.out 9; have hfz10_10 := blk_frozen BK318.out 10) | ((with_reducible refine gate_callee (f := 57) rfl ?_); refine goesL_ (some 14) rfl rfl Try.func57 (by kernel_rfl) rfl #[.agg #[.int .i64 a0_0, .int .i64 a0_1, .int .i64 a0_2, .int .i64 a0_3, .int .i64 a0_4, .int .i64 a0_5, .int .i64 a0_6, .int .i64 a0_7, .int .i64 a0_8, .int .i64 a0_9, .slice A0_10 l0_10.length c0_10], .slice A2 l2.length c2] rfl (by (try simp only [List.map_toArray, List.map_cons, List.map_nil]); first | done | rfl | (simp only [List.length_drop, List.length_take]; rfl)) ?_; (with_reducible refine (bellwetherlaw14_few.calls k a0_0 a0_1 a0_2 a0_3 a0_4 a0_5 a0_6 a0_7 a0_8 a0_9 _ _ l0_10 _ _ l2 true _ ?side1 ?side2 ?side3 ?side4 A5.out).mono ?_); (case side1 => repeat (first | exact (Kd.C_below HR0_10.out HB.out) | (with_reducible refine Kd.C_alloc ?_ _) | (with_reducible refine Kd.C_drewN ?_ _) | (with_reducible refine Kd.C_drew ?_))); (case side2 => exact HC0_10.out); (case side3 => repeat (first | exact (Kd.C_below HR2.out HB.out) | (with_reducible refine Kd.C_alloc ?_ _) | (with_reducible refine Kd.C_drewN ?_ _) | (with_reducible refine Kd.C_drew ?_))); (case side4 => exact HC2.out); rintro e w11 ⟨rfl, hb⟩; refine ⟨_, rfl, ?_⟩; have n0_ := Aside0.mk (blk_below (g := gb318) (o := .cells #[.int .i64 a0_0, .int .i64 a0_1, .int .i64 a0_2, .int .i64 a0_3, .int .i64 a0_4, .int .i64 a0_5, .int .i64 a0_6, .int .i64 a0_7, .int .i64 a0_8, .int .i64 a0_9, .slice A0_10 l0_10.length c0_10] 24 (0, 0)) (by (with_reducible repeat (first | refine blk_drewN ?_ _ | refine blk_drew ?_ | refine blk_alloc ?_ _)); exact BK318.out) hb); have n1_ := Aside0.mk (below_step (by repeat (first | (with_reducible first | exact HB.out | apply below_alloc | apply pw_below_drewN | apply below_drew1 | refine below_set ?_ GE318.out) | exact HB.out)) hb); clear BK318; clear HB; have BK318 := n0_; have HB := n1_; clear n0_ n1_; (try clear hb); (try clear hb2); (try clear hk); (try clear hi); have hcz12_0 : w11.cell? ⟨gb318, 0, none⟩ = some (.int .i64 a0_0) := (blk_cell BK318.out 0).trans rfl; have hcz12_1 : w11.cell? ⟨gb318, 1, none⟩ = some (.int .i64 a0_1) := (blk_cell BK318.out 1).trans rfl; have hcz12_2 : w11.cell? ⟨gb318, 2, none⟩ = some (.int .i64 a0_2) := (blk_cell BK318.out 2).trans rfl; have hcz12_3 : w11.cell? ⟨gb318, 3, none⟩ = some (.int .i64 a0_3) := (blk_cell BK318.out 3).trans rfl; have hcz12_4 : w11.cell? ⟨gb318, 4, none⟩ = some (.int .i64 a0_4) := (blk_cell BK318.out 4).trans rfl; have hcz12_5 : w11.cell? ⟨gb318, 5, none⟩ = some (.int .i64 a0_5) := (blk_cell BK318.out 5).trans rfl; have hcz12_6 : w11.cell? ⟨gb318, 6, none⟩ = some (.int .i64 a0_6) := (blk_cell BK318.out 6).trans rfl; have hcz12_7 : w11.cell? ⟨gb318, 7, none⟩ = some (.int .i64 a0_7) := (blk_cell BK318.out 7).trans rfl; have hcz12_8 : w11.cell? ⟨gb318, 8, none⟩ = some (.int .i64 a0_8) := (blk_cell BK318.out 8).trans rfl; have hcz12_9 : w11.cell? ⟨gb318, 9, none⟩ = some (.int .i64 a0_9) := (blk_cell BK318.out 9).trans rfl; have hcz12_10 : w11.cell? ⟨gb318, 10, none⟩ = some (.slice A0_10 l0_10.length c0_10) := (blk_cell BK318.out 10).trans rfl; have hfz12_0 := blk_frozen BK318.out 0; have hfz12_1 := blk_frozen BK318.out 1; have hfz12_2 := blk_frozen BK318.out 2; have hfz12_3 := blk_frozen BK318.out 3; have hfz12_4 := blk_frozen BK318.out 4; have hfz12_5 := blk_frozen BK318.out 5; have hfz12_6 := blk_frozen BK318.out 6; have hfz12_7 := blk_frozen BK318.out 7; have hfz12_8 := blk_frozen BK318.out 8; have hfz12_9 := blk_frozen BK318.out 9; have hfz12_10 := blk_frozen BK318.out 10) | ((with_reducible refine gate_callee (f := 55) rfl ?_); refine goesL_ (some 21) rfl rfl Try.func55 (by kernel_rfl) rfl #[.agg #[.int .i64 a0_0, .int .i64 a0_1, .int .i64 a0_2, .int .i64 a0_3, .int .i64 a0_4, .int .i64 a0_5, .int .i64 a0_6, .int .i64 a0_7, .int .i64 a0_8, .int .i64 a0_9, .slice A0_10 l0_10.length c0_10], .slice A1 l1.length c1, .slice A2 l2.length c2, .slice A3 l3.length c3] rfl (by (try simp only [List.map_toArray, List.map_cons, List.map_nil]); first | done | rfl | (simp only [List.length_drop, List.length_take]; rfl)) ?_; (with_reducible refine (king_Play.calls k a0_0 a0_1 a0_2 a0_3 a0_4 a0_5 a0_6 a0_7 a0_8 a0_9 _ _ l0_10 _ _ l1 _ _ l2 _ _ l3 t321 _ ?side1 ?side2 ?side3 ?side4 ?side5 ?side6 ?side7 ?side8 A7.out).mono ?_); (case side1 => repeat (first | exact (Kd.C_below HR0_10.out HB.out) | (with_reducible refine Kd.C_alloc ?_ _) | (with_reducible refine Kd.C_drewN ?_ _) | (with_reducible refine Kd.C_drew ?_))); (case side2 => exact HC0_10.out); (case side3 => repeat (first | exact (Kd.C_below HR1.out HB.out) | (with_reducible refine Kd.C_alloc ?_ _) | (with_reducible refine Kd.C_drewN ?_ _) | (with_reducible refine Kd.C_drew ?_))); (case side4 => exact HC1.out); (case side5 => repeat (first | exact (Kd.C_below HR2.out HB.out) | (with_reducible refine Kd.C_alloc ?_ _) | (with_reducible refine Kd.C_drewN ?_ _) | (with_reducible refine Kd.C_drew ?_))); (case side6 => exact HC2.out); (case side7 => repeat (first | exact (Kd.C_below HR3.out HB.out) | (with_reducible refine Kd.C_alloc ?_ _) | (with_reducible refine Kd.C_drewN ?_ _) | (with_reducible refine Kd.C_drew ?_))); (case side8 => exact HC3.out); rintro e w13 ⟨v322, rfl, ho0, hb⟩; refine ⟨_, rfl, ?_⟩; have n0_ := Aside0.mk (Kd.R_lower ho0 (below_size (by repeat (first | (with_reducible first | exact HB.out | apply below_alloc | apply pw_below_drewN | apply below_drew1 | refine below_set ?_ GE318.out) | exact HB.out)))); have n1_ := Aside0.mk (blk_below (g := gb318) (o := .cells #[.int .i64 a0_0, .int .i64 a0_1, .int .i64 a0_2, .int .i64 a0_3, .int .i64 a0_4, .int .i64 a0_5, .int .i64 a0_6, .int .i64 a0_7, .int .i64 a0_8, .int .i64 a0_9, .slice A0_10 l0_10.length c0_10] 24 (0, 0)) (by (with_reducible repeat (first | refine blk_drewN ?_ _ | refine blk_drew ?_ | refine blk_alloc ?_ _)); exact BK318.out) hb); have n2_ := Aside0.mk (below_step (by repeat (first | (with_reducible first | exact HB.out | apply below_alloc | apply pw_below_drewN | apply below_drew1 | refine below_set ?_ GE318.out) | exact HB.out)) hb); clear BK318; clear HB; have HO323 := n0_; have BK318 := n1_; have HB := n2_; clear n0_ n1_ n2_; (try clear hb); (try clear hb2); (try clear hk); (try clear hi); (try clear ho0); obtain ⟨Ao14, co14, eo14⟩ := Kd.R_slice HO323.out; subst eo14; have hcz15_0 : w13.cell? ⟨gb318, 0, none⟩ = some (.int .i64 a0_0) := (blk_cell BK318.out 0).trans rfl; have hcz15_1 : w13.cell? ⟨gb318, 1, none⟩ = some (.int .i64 a0_1) := (blk_cell BK318.out 1).trans rfl; have hcz15_2 : w13.cell? ⟨gb318, 2, none⟩ = some (.int .i64 a0_2) := (blk_cell BK318.out 2).trans rfl; have hcz15_3 : w13.cell? ⟨gb318, 3, none⟩ = some (.int .i64 a0_3) := (blk_cell BK318.out 3).trans rfl; have hcz15_4 : w13.cell? ⟨gb318, 4, none⟩ = some (.int .i64 a0_4) := (blk_cell BK318.out 4).trans rfl; have hcz15_5 : w13.cell? ⟨gb318, 5, none⟩ = some (.int .i64 a0_5) := (blk_cell BK318.out 5).trans rfl; have hcz15_6 : w13.cell? ⟨gb318, 6, none⟩ = some (.int .i64 a0_6) := (blk_cell BK318.out 6).trans rfl; have hcz15_7 : w13.cell? ⟨gb318, 7, none⟩ = some (.int .i64 a0_7) := (blk_cell BK318.out 7).trans rfl; have hcz15_8 : w13.cell? ⟨gb318, 8, none⟩ = some (.int .i64 a0_8) := (blk_cell BK318.out 8).trans rfl; have hcz15_9 : w13.cell? ⟨gb318, 9, none⟩ = some (.int .i64 a0_9) := (blk_cell BK318.out 9).trans rfl; have hcz15_10 : w13.cell? ⟨gb318, 10, none⟩ = some (.slice A0_10 l0_10.length c0_10) := (blk_cell BK318.out 10).trans rfl; have hfz15_0 := blk_frozen BK318.out 0; have hfz15_1 := blk_frozen BK318.out 1; have hfz15_2 := blk_frozen BK318.out 2; have hfz15_3 := blk_frozen BK318.out 3; have hfz15_4 := blk_frozen BK318.out 4; have hfz15_5 := blk_frozen BK318.out 5; have hfz15_6 := blk_frozen BK318.out 6; have hfz15_7 := blk_frozen BK318.out 7; have hfz15_8 := blk_frozen BK318.out 8; have hfz15_9 := blk_frozen BK318.out 9; have hfz15_10 := blk_frozen BK318.out 10))
   go_loopg [10, 11] k (fun kq v10 v11 w' => ∃ (x10_1 : Int) (x11_1 : Int), v10 = .int .i64 x10_1 ∧ v11 = .int .i64 x11_1 ∧ Aside0 (bellwetherlaw14_KingAgrees.l0 kq l2 t321 x10_1 x11_1 a0_0 a0_1 a0_2 a0_3 a0_4 a0_5 a0_6 a0_7 a0_8 a0_9 l0_10 = some r) ∧ Aside0 (kq ≤ k) ∧ Aside0 (Kd.R (Kd.int .i64) 3 w' w.heap.size (fun _ => True) (.slice Ao14 t321.length co14) t321) ∧ Aside0 (w'.heap[gb318]? = some (.cells #[.int .i64 a0_0, .int .i64 a0_1, .int .i64 a0_2, .int .i64 a0_3, .int .i64 a0_4, .int .i64 a0_5, .int .i64 a0_6, .int .i64 a0_7, .int .i64 a0_8, .int .i64 a0_9, (.slice A0_10 l0_10.length c0_10)] 24 (0, 0))) ∧ Aside0 (Below w.heap.size w w'))
   case atStart => exact ⟨((-1)), (0), (by first | rfl | (simp; done) | (simp [*]; done)), (by first | rfl | (simp; done) | (simp [*]; done)), H', ⟨Nat.le_refl _⟩, ⟨by (with_reducible repeat (first | apply Kd.R_alloc | apply Kd.R_drewN | apply Kd.R_drew)); exact HO323.out⟩, ⟨by (with_reducible repeat (first | refine blk_drewN ?_ _ | refine blk_drew ?_ | refine blk_alloc ?_ _)); exact BK318.out⟩, ⟨by repeat (first | (with_reducible first | exact HB.out | apply below_alloc | apply pw_below_drewN | apply below_drew1 | refine below_set ?_ GE318.out) | exact HB.out)⟩⟩
   case round =>
    clear H'
    try clear c1
    try clear c2
    try clear p2
    try clear c3
    try clear c5
    try clear c6
    try clear c8
    try clear c8b0
    try clear c8b1
    try clear c13
    try clear hcz10_0
    try clear hcz10_1
    try clear hcz10_10
    try clear hcz10_2
    try clear hcz10_3
    try clear hcz10_4
    try clear hcz10_5
    try clear hcz10_6
    try clear hcz10_7
    try clear hcz10_8
    try clear hcz10_9
    try clear hcz12_0
    try clear hcz12_1
    try clear hcz12_10
    try clear hcz12_2
    try clear hcz12_3
    try clear hcz12_4
    try clear hcz12_5
    try clear hcz12_6
    try clear hcz12_7
    try clear hcz12_8
    try clear hcz12_9
    try clear hcz15_0
    try clear hcz15_1
    try clear hcz15_10
    try clear hcz15_2
    try clear hcz15_3
    try clear hcz15_4
    try clear hcz15_5
    try clear hcz15_6
    try clear hcz15_7
    try clear hcz15_8
    try clear hcz15_9
    try clear hfz10_0
    try clear hfz10_1
    try clear hfz10_10
    try clear hfz10_2
    try clear hfz10_3
    try clear hfz10_4
    try clear hfz10_5
    try clear hfz10_6
    try clear hfz10_7
    try clear hfz10_8
    try clear hfz10_9
    try clear hfz12_0
    try clear hfz12_1
    try clear hfz12_10
    try clear hfz12_2
    try clear hfz12_3
    try clear hfz12_4
    try clear hfz12_5
    try clear hfz12_6
    try clear hfz12_7
    try clear hfz12_8
    try clear hfz12_9
    try clear hfz15_0
    try clear hfz15_1
    try clear hfz15_10
    try clear hfz15_2
    try clear hfz15_3
    try clear hfz15_4
    try clear hfz15_5
    try clear hfz15_6
    try clear hfz15_7
    try clear hfz15_8
    try clear hfz15_9
    obtain ⟨x10_1, x11_1, rfl, rfl, HA, HK1, HO_9, BK318, HB⟩ := hrel
    cases gk with
    | zero => exact absurd HA.out (by simp [bellwetherlaw14_KingAgrees.l0])
    | succ k1 =>
     have H := HA.out
     clear HA
     simp only [bellwetherlaw14_KingAgrees.l0] at H
     by_cases c16 : x11_1 < a0_0
     ·
      rw [if_pos c16] at H
      have c16b0 : decide (x11_1 < a0_0) = true := decide_eq_true c16
      clear c16
      replace H := Option.bind_eq_some_iff.mp H
      obtain ⟨t325, A170, H⟩ := H
      replace H : (if t325 = true then (bellwetherlaw14_KingAgrees.l0 k1 l2 t321 x10_1 (wrap64 (x11_1 + 1)) a0_0 a0_1 a0_2 a0_3 a0_4 a0_5 a0_6 a0_7 a0_8 a0_9 l0_10) else (if 0 ≤ x11_1 then (if x11_1 < (t321.length : Int) then (if (rd t321 x11_1) = 0 then (if x10_1 ≥ 0 then (if (rd t321 x11_1) = x10_1 then (bellwetherlaw14_KingAgrees.l0 k1 l2 t321 (rd t321 x11_1) (wrap64 (x11_1 + 1)) a0_0 a0_1 a0_2 a0_3 a0_4 a0_5 a0_6 a0_7 a0_8 a0_9 l0_10) else (some false)) else (bellwetherlaw14_KingAgrees.l0 k1 l2 t321 (rd t321 x11_1) (wrap64 (x11_1 + 1)) a0_0 a0_1 a0_2 a0_3 a0_4 a0_5 a0_6 a0_7 a0_8 a0_9 l0_10)) else (if (rd t321 x11_1) = 1 then (if x10_1 ≥ 0 then (if (rd t321 x11_1) = x10_1 then (bellwetherlaw14_KingAgrees.l0 k1 l2 t321 (rd t321 x11_1) (wrap64 (x11_1 + 1)) a0_0 a0_1 a0_2 a0_3 a0_4 a0_5 a0_6 a0_7 a0_8 a0_9 l0_10) else (some false)) else (bellwetherlaw14_KingAgrees.l0 k1 l2 t321 (rd t321 x11_1) (wrap64 (x11_1 + 1)) a0_0 a0_1 a0_2 a0_3 a0_4 a0_5 a0_6 a0_7 a0_8 a0_9 l0_10)) else (some false))) else (none)) else (none))) = some r := H
      have A17 := Aside0.mk A170
      clear A170
      by_cases c18 : t325 = true
      ·
       subst c18
       have H1 : (bellwetherlaw14_KingAgrees.l0 k1 l2 t321 x10_1 (wrap64 (x11_1 + 1)) a0_0 a0_1 a0_2 a0_3 a0_4 a0_5 a0_6 a0_7 a0_8 a0_9 l0_10) = some r := by rw [if_pos rfl] at H; exact H
       clear H
       have H := H1
       clear H1
       have H' := Aside0.mk H
       clear H
       have hcz19_0 : wr.cell? ⟨gb318, 0, none⟩ = some (.int .i64 a0_0) := (blk_cell BK318.out 0).trans rfl
       have hcz19_1 : wr.cell? ⟨gb318, 1, none⟩ = some (.int .i64 a0_1) := (blk_cell BK318.out 1).trans rfl
       have hcz19_2 : wr.cell? ⟨gb318, 2, none⟩ = some (.int .i64 a0_2) := (blk_cell BK318.out 2).trans rfl
       have hcz19_3 : wr.cell? ⟨gb318, 3, none⟩ = some (.int .i64 a0_3) := (blk_cell BK318.out 3).trans rfl
       have hcz19_4 : wr.cell? ⟨gb318, 4, none⟩ = some (.int .i64 a0_4) := (blk_cell BK318.out 4).trans rfl
       have hcz19_5 : wr.cell? ⟨gb318, 5, none⟩ = some (.int .i64 a0_5) := (blk_cell BK318.out 5).trans rfl
       have hcz19_6 : wr.cell? ⟨gb318, 6, none⟩ = some (.int .i64 a0_6) := (blk_cell BK318.out 6).trans rfl
       have hcz19_7 : wr.cell? ⟨gb318, 7, none⟩ = some (.int .i64 a0_7) := (blk_cell BK318.out 7).trans rfl
       have hcz19_8 : wr.cell? ⟨gb318, 8, none⟩ = some (.int .i64 a0_8) := (blk_cell BK318.out 8).trans rfl
       have hcz19_9 : wr.cell? ⟨gb318, 9, none⟩ = some (.int .i64 a0_9) := (blk_cell BK318.out 9).trans rfl
       have hcz19_10 : wr.cell? ⟨gb318, 10, none⟩ = some (.slice A0_10 l0_10.length c0_10) := (blk_cell BK318.out 10).trans rfl
       have hfz19_0 := blk_frozen BK318.out 0
       have hfz19_1 := blk_frozen BK318.out 1
       have hfz19_2 := blk_frozen BK318.out 2
       have hfz19_3 := blk_frozen BK318.out 3
       have hfz19_4 := blk_frozen BK318.out 4
       have hfz19_5 := blk_frozen BK318.out 5
       have hfz19_6 := blk_frozen BK318.out 6
       have hfz19_7 := blk_frozen BK318.out 7
       have hfz19_8 := blk_frozen BK318.out 8
       have hfz19_9 := blk_frozen BK318.out 9
       have hfz19_10 := blk_frozen BK318.out 10
       go_wp2_with (first | ((with_reducible refine gate_callee (f := 43) rfl ?_); refine goesL_ (some 35) rfl rfl Try.func43 (by kernel_rfl) rfl #[.slice A2 l2.length c2, .int .i64 x11_1] rfl (by (try simp only [List.map_toArray, List.map_cons, List.map_nil]); first | done | rfl | (simp only [List.length_drop, List.length_take]; rfl)) ?_; (with_reducible refine (bellwetherref14_In.calls k1 _ _ l2 x11_1 true _ ?side1 ?side2 A17.out).mono ?_); (case side1 => repeat (first | exact (Kd.C_below HR2.out HB.out) | (with_reducible refine Kd.C_alloc ?_ _) | (with_reducible refine Kd.C_drewN ?_ _) | (with_reducible refine Kd.C_drew ?_))); (case side2 => exact HC2.out); rintro e w' ⟨rfl, ⟨nd, rfl⟩⟩; refine ⟨_, rfl, ?_⟩))
       go_roundg k1
       case measure => have := HK1.out; omega
       case rel => exact ⟨(x10_1), (wrap64 (x11_1 + 1)), (by first | rfl | (simp; done) | (simp [*]; done)), (by first | rfl | (simp; done) | (simp [*]; done)), H', ⟨by have := HK1.out; omega⟩, ⟨by (with_reducible repeat (first | apply Kd.R_alloc | apply Kd.R_drewN | apply Kd.R_drew)); exact HO_9.out⟩, ⟨by (with_reducible repeat (first | refine blk_drewN ?_ _ | refine blk_drew ?_ | refine blk_alloc ?_ _)); exact BK318.out⟩, ⟨by repeat (first | (with_reducible first | exact HB.out | apply below_alloc | apply pw_below_drewN | apply below_drew1 | refine below_set ?_ GE318.out) | exact HB.out)⟩⟩
      ·
       replace c18 := Bool.eq_false_iff.mpr c18
       subst c18
       have H1 : (if 0 ≤ x11_1 then (if x11_1 < (t321.length : Int) then (if (rd t321 x11_1) = 0 then (if x10_1 ≥ 0 then (if (rd t321 x11_1) = x10_1 then (bellwetherlaw14_KingAgrees.l0 k1 l2 t321 (rd t321 x11_1) (wrap64 (x11_1 + 1)) a0_0 a0_1 a0_2 a0_3 a0_4 a0_5 a0_6 a0_7 a0_8 a0_9 l0_10) else (some false)) else (bellwetherlaw14_KingAgrees.l0 k1 l2 t321 (rd t321 x11_1) (wrap64 (x11_1 + 1)) a0_0 a0_1 a0_2 a0_3 a0_4 a0_5 a0_6 a0_7 a0_8 a0_9 l0_10)) else (if (rd t321 x11_1) = 1 then (if x10_1 ≥ 0 then (if (rd t321 x11_1) = x10_1 then (bellwetherlaw14_KingAgrees.l0 k1 l2 t321 (rd t321 x11_1) (wrap64 (x11_1 + 1)) a0_0 a0_1 a0_2 a0_3 a0_4 a0_5 a0_6 a0_7 a0_8 a0_9 l0_10) else (some false)) else (bellwetherlaw14_KingAgrees.l0 k1 l2 t321 (rd t321 x11_1) (wrap64 (x11_1 + 1)) a0_0 a0_1 a0_2 a0_3 a0_4 a0_5 a0_6 a0_7 a0_8 a0_9 l0_10)) else (some false))) else (none)) else (none)) = some r := by rw [if_neg (show ¬ (false = true) by decide)] at H; exact H
       clear H
       have H := H1
       clear H1
       by_cases c20 : 0 ≤ x11_1
       ·
        rw [if_pos c20] at H
        have c20b0 : decide (0 ≤ x11_1) = true := decide_eq_true c20
        clear c20
        by_cases c21 : x11_1 < (t321.length : Int)
        ·
         rw [if_pos c21] at H
         have c21b0 : decide (x11_1 < (t321.length : Int)) = true := decide_eq_true c21
         clear c21
         by_cases c22 : (rd t321 x11_1) = 0
         ·
          rw [if_pos c22] at H
          have c22b0 : ((rd t321 x11_1) == 0) = true := beq_iff_eq.mpr c22
          have c22b1 : ((rd t321 x11_1) != 0) = false := bne_eq_false_iff_eq.mpr c22
          clear c22
          by_cases c23 : x10_1 ≥ 0
          ·
           rw [if_pos c23] at H
           have c23b0 : decide (0 ≤ x10_1) = true := decide_eq_true c23
           clear c23
           by_cases c24 : (rd t321 x11_1) = x10_1
           ·
            rw [if_pos c24] at H
            have c24b0 : ((rd t321 x11_1) == x10_1) = true := beq_iff_eq.mpr c24
            have c24b1 : ((rd t321 x11_1) != x10_1) = false := bne_eq_false_iff_eq.mpr c24
            clear c24
            have H' := Aside0.mk H
            clear H
            have hcz25_0 : wr.cell? ⟨gb318, 0, none⟩ = some (.int .i64 a0_0) := (blk_cell BK318.out 0).trans rfl
            have hcz25_1 : wr.cell? ⟨gb318, 1, none⟩ = some (.int .i64 a0_1) := (blk_cell BK318.out 1).trans rfl
            have hcz25_2 : wr.cell? ⟨gb318, 2, none⟩ = some (.int .i64 a0_2) := (blk_cell BK318.out 2).trans rfl
            have hcz25_3 : wr.cell? ⟨gb318, 3, none⟩ = some (.int .i64 a0_3) := (blk_cell BK318.out 3).trans rfl
            have hcz25_4 : wr.cell? ⟨gb318, 4, none⟩ = some (.int .i64 a0_4) := (blk_cell BK318.out 4).trans rfl
            have hcz25_5 : wr.cell? ⟨gb318, 5, none⟩ = some (.int .i64 a0_5) := (blk_cell BK318.out 5).trans rfl
            have hcz25_6 : wr.cell? ⟨gb318, 6, none⟩ = some (.int .i64 a0_6) := (blk_cell BK318.out 6).trans rfl
            have hcz25_7 : wr.cell? ⟨gb318, 7, none⟩ = some (.int .i64 a0_7) := (blk_cell BK318.out 7).trans rfl
            have hcz25_8 : wr.cell? ⟨gb318, 8, none⟩ = some (.int .i64 a0_8) := (blk_cell BK318.out 8).trans rfl
            have hcz25_9 : wr.cell? ⟨gb318, 9, none⟩ = some (.int .i64 a0_9) := (blk_cell BK318.out 9).trans rfl
            have hcz25_10 : wr.cell? ⟨gb318, 10, none⟩ = some (.slice A0_10 l0_10.length c0_10) := (blk_cell BK318.out 10).trans rfl
            have hfz25_0 := blk_frozen BK318.out 0
            have hfz25_1 := blk_frozen BK318.out 1
            have hfz25_2 := blk_frozen BK318.out 2
            have hfz25_3 := blk_frozen BK318.out 3
            have hfz25_4 := blk_frozen BK318.out 4
            have hfz25_5 := blk_frozen BK318.out 5
            have hfz25_6 := blk_frozen BK318.out 6
            have hfz25_7 := blk_frozen BK318.out 7
            have hfz25_8 := blk_frozen BK318.out 8
            have hfz25_9 := blk_frozen BK318.out 9
            have hfz25_10 := blk_frozen BK318.out 10
            go_wp2_with (first | ((with_reducible refine gate_callee (f := 43) rfl ?_); refine goesL_ (some 35) rfl rfl Try.func43 (by kernel_rfl) rfl #[.slice A2 l2.length c2, .int .i64 x11_1] rfl (by (try simp only [List.map_toArray, List.map_cons, List.map_nil]); first | done | rfl | (simp only [List.length_drop, List.length_take]; rfl)) ?_; (with_reducible refine (bellwetherref14_In.calls k1 _ _ l2 x11_1 false _ ?side1 ?side2 A17.out).mono ?_); (case side1 => repeat (first | exact (Kd.C_below HR2.out HB.out) | (with_reducible refine Kd.C_alloc ?_ _) | (with_reducible refine Kd.C_drewN ?_ _) | (with_reducible refine Kd.C_drew ?_))); (case side2 => exact HC2.out); rintro e w' ⟨rfl, ⟨nd, rfl⟩⟩; refine ⟨_, rfl, ?_⟩; have p326 : 0 ≤ (x11_1 : Int) := of_decide_eq_true (by first | (with_reducible assumption) | assumption); have q326 : x11_1 < (t321.length : Int) := of_decide_eq_true (by first | (with_reducible assumption) | assumption); obtain ⟨ad326, e326, hx326_0⟩ := Kd.at_int (Kd.R_reads' HO_9.out).2.2 x11_1 p326 q326; cases e326; replace p326 := eq_true p326; replace q326 := eq_true q326; have p327 : 0 ≤ (x11_1 : Int) := of_decide_eq_true (by first | (with_reducible assumption) | assumption); have q327 : x11_1 < (t321.length : Int) := of_decide_eq_true (by first | (with_reducible assumption) | assumption); obtain ⟨ad327, e327, hx327_0⟩ := Kd.at_int (Kd.R_reads' HO_9.out).2.2 x11_1 p327 q327; obtain rfl : ad326 = ad327 := (by injection e327); replace p327 := eq_true p327; replace q327 := eq_true q327; have p328 : 0 ≤ (x11_1 : Int) := of_decide_eq_true (by first | (with_reducible assumption) | assumption); have q328 : x11_1 < (t321.length : Int) := of_decide_eq_true (by first | (with_reducible assumption) | assumption); obtain ⟨ad328, e328, hx328_0⟩ := Kd.at_int (Kd.R_reads' HO_9.out).2.2 x11_1 p328 q328; obtain rfl : ad326 = ad328 := (by injection e328); replace p328 := eq_true p328; replace q328 := eq_true q328))
            go_roundg k1
            case measure => have := HK1.out; omega
            case rel => exact ⟨(rd t321 x11_1), (wrap64 (x11_1 + 1)), (by first | rfl | (simp; done) | (simp [*]; done)), (by first | rfl | (simp; done) | (simp [*]; done)), H', ⟨by have := HK1.out; omega⟩, ⟨by (with_reducible repeat (first | apply Kd.R_alloc | apply Kd.R_drewN | apply Kd.R_drew)); exact HO_9.out⟩, ⟨by (with_reducible repeat (first | refine blk_drewN ?_ _ | refine blk_drew ?_ | refine blk_alloc ?_ _)); exact BK318.out⟩, ⟨by repeat (first | (with_reducible first | exact HB.out | apply below_alloc | apply pw_below_drewN | apply below_drew1 | refine below_set ?_ GE318.out) | exact HB.out)⟩⟩
           ·
            rw [if_neg c24] at H
            have c24b0 : ((rd t321 x11_1) == x10_1) = false := beq_eq_false_iff_ne.mpr c24
            have c24b1 : ((rd t321 x11_1) != x10_1) = true := bne_iff_ne.mpr c24
            (have H3_ := Option.some.inj H; have H4_ := hT.out; rw [← H3_] at H4_; exact absurd H4_ (by decide))
          ·
           rw [if_neg c23] at H
           have c23b0 : decide (0 ≤ x10_1) = false := decide_eq_false c23
           clear c23
           have H' := Aside0.mk H
           clear H
           have hcz26_0 : wr.cell? ⟨gb318, 0, none⟩ = some (.int .i64 a0_0) := (blk_cell BK318.out 0).trans rfl
           have hcz26_1 : wr.cell? ⟨gb318, 1, none⟩ = some (.int .i64 a0_1) := (blk_cell BK318.out 1).trans rfl
           have hcz26_2 : wr.cell? ⟨gb318, 2, none⟩ = some (.int .i64 a0_2) := (blk_cell BK318.out 2).trans rfl
           have hcz26_3 : wr.cell? ⟨gb318, 3, none⟩ = some (.int .i64 a0_3) := (blk_cell BK318.out 3).trans rfl
           have hcz26_4 : wr.cell? ⟨gb318, 4, none⟩ = some (.int .i64 a0_4) := (blk_cell BK318.out 4).trans rfl
           have hcz26_5 : wr.cell? ⟨gb318, 5, none⟩ = some (.int .i64 a0_5) := (blk_cell BK318.out 5).trans rfl
           have hcz26_6 : wr.cell? ⟨gb318, 6, none⟩ = some (.int .i64 a0_6) := (blk_cell BK318.out 6).trans rfl
           have hcz26_7 : wr.cell? ⟨gb318, 7, none⟩ = some (.int .i64 a0_7) := (blk_cell BK318.out 7).trans rfl
           have hcz26_8 : wr.cell? ⟨gb318, 8, none⟩ = some (.int .i64 a0_8) := (blk_cell BK318.out 8).trans rfl
           have hcz26_9 : wr.cell? ⟨gb318, 9, none⟩ = some (.int .i64 a0_9) := (blk_cell BK318.out 9).trans rfl
           have hcz26_10 : wr.cell? ⟨gb318, 10, none⟩ = some (.slice A0_10 l0_10.length c0_10) := (blk_cell BK318.out 10).trans rfl
           have hfz26_0 := blk_frozen BK318.out 0
           have hfz26_1 := blk_frozen BK318.out 1
           have hfz26_2 := blk_frozen BK318.out 2
           have hfz26_3 := blk_frozen BK318.out 3
           have hfz26_4 := blk_frozen BK318.out 4
           have hfz26_5 := blk_frozen BK318.out 5
           have hfz26_6 := blk_frozen BK318.out 6
           have hfz26_7 := blk_frozen BK318.out 7
           have hfz26_8 := blk_frozen BK318.out 8
           have hfz26_9 := blk_frozen BK318.out 9
           have hfz26_10 := blk_frozen BK318.out 10
           go_wp2_with (first | ((with_reducible refine gate_callee (f := 43) rfl ?_); refine goesL_ (some 35) rfl rfl Try.func43 (by kernel_rfl) rfl #[.slice A2 l2.length c2, .int .i64 x11_1] rfl (by (try simp only [List.map_toArray, List.map_cons, List.map_nil]); first | done | rfl | (simp only [List.length_drop, List.length_take]; rfl)) ?_; (with_reducible refine (bellwetherref14_In.calls k1 _ _ l2 x11_1 false _ ?side1 ?side2 A17.out).mono ?_); (case side1 => repeat (first | exact (Kd.C_below HR2.out HB.out) | (with_reducible refine Kd.C_alloc ?_ _) | (with_reducible refine Kd.C_drewN ?_ _) | (with_reducible refine Kd.C_drew ?_))); (case side2 => exact HC2.out); rintro e w' ⟨rfl, ⟨nd, rfl⟩⟩; refine ⟨_, rfl, ?_⟩; have p326 : 0 ≤ (x11_1 : Int) := of_decide_eq_true (by first | (with_reducible assumption) | assumption); have q326 : x11_1 < (t321.length : Int) := of_decide_eq_true (by first | (with_reducible assumption) | assumption); obtain ⟨ad326, e326, hx326_0⟩ := Kd.at_int (Kd.R_reads' HO_9.out).2.2 x11_1 p326 q326; cases e326; replace p326 := eq_true p326; replace q326 := eq_true q326; have p329 : 0 ≤ (x11_1 : Int) := of_decide_eq_true (by first | (with_reducible assumption) | assumption); have q329 : x11_1 < (t321.length : Int) := of_decide_eq_true (by first | (with_reducible assumption) | assumption); obtain ⟨ad329, e329, hx329_0⟩ := Kd.at_int (Kd.R_reads' HO_9.out).2.2 x11_1 p329 q329; obtain rfl : ad326 = ad329 := (by injection e329); replace p329 := eq_true p329; replace q329 := eq_true q329))
           go_roundg k1
           case measure => have := HK1.out; omega
           case rel => exact ⟨(rd t321 x11_1), (wrap64 (x11_1 + 1)), (by first | rfl | (simp; done) | (simp [*]; done)), (by first | rfl | (simp; done) | (simp [*]; done)), H', ⟨by have := HK1.out; omega⟩, ⟨by (with_reducible repeat (first | apply Kd.R_alloc | apply Kd.R_drewN | apply Kd.R_drew)); exact HO_9.out⟩, ⟨by (with_reducible repeat (first | refine blk_drewN ?_ _ | refine blk_drew ?_ | refine blk_alloc ?_ _)); exact BK318.out⟩, ⟨by repeat (first | (with_reducible first | exact HB.out | apply below_alloc | apply pw_below_drewN | apply below_drew1 | refine below_set ?_ GE318.out) | exact HB.out)⟩⟩
         ·
          rw [if_neg c22] at H
          have c22b0 : ((rd t321 x11_1) == 0) = false := beq_eq_false_iff_ne.mpr c22
          have c22b1 : ((rd t321 x11_1) != 0) = true := bne_iff_ne.mpr c22
          by_cases c27 : (rd t321 x11_1) = 1
          ·
           rw [if_pos c27] at H
           have c27b0 : ((rd t321 x11_1) == 1) = true := beq_iff_eq.mpr c27
           have c27b1 : ((rd t321 x11_1) != 1) = false := bne_eq_false_iff_eq.mpr c27
           clear c27
           by_cases c28 : x10_1 ≥ 0
           ·
            rw [if_pos c28] at H
            have c28b0 : decide (0 ≤ x10_1) = true := decide_eq_true c28
            clear c28
            by_cases c29 : (rd t321 x11_1) = x10_1
            ·
             rw [if_pos c29] at H
             have c29b0 : ((rd t321 x11_1) == x10_1) = true := beq_iff_eq.mpr c29
             have c29b1 : ((rd t321 x11_1) != x10_1) = false := bne_eq_false_iff_eq.mpr c29
             clear c29
             have H' := Aside0.mk H
             clear H
             have hcz30_0 : wr.cell? ⟨gb318, 0, none⟩ = some (.int .i64 a0_0) := (blk_cell BK318.out 0).trans rfl
             have hcz30_1 : wr.cell? ⟨gb318, 1, none⟩ = some (.int .i64 a0_1) := (blk_cell BK318.out 1).trans rfl
             have hcz30_2 : wr.cell? ⟨gb318, 2, none⟩ = some (.int .i64 a0_2) := (blk_cell BK318.out 2).trans rfl
             have hcz30_3 : wr.cell? ⟨gb318, 3, none⟩ = some (.int .i64 a0_3) := (blk_cell BK318.out 3).trans rfl
             have hcz30_4 : wr.cell? ⟨gb318, 4, none⟩ = some (.int .i64 a0_4) := (blk_cell BK318.out 4).trans rfl
             have hcz30_5 : wr.cell? ⟨gb318, 5, none⟩ = some (.int .i64 a0_5) := (blk_cell BK318.out 5).trans rfl
             have hcz30_6 : wr.cell? ⟨gb318, 6, none⟩ = some (.int .i64 a0_6) := (blk_cell BK318.out 6).trans rfl
             have hcz30_7 : wr.cell? ⟨gb318, 7, none⟩ = some (.int .i64 a0_7) := (blk_cell BK318.out 7).trans rfl
             have hcz30_8 : wr.cell? ⟨gb318, 8, none⟩ = some (.int .i64 a0_8) := (blk_cell BK318.out 8).trans rfl
             have hcz30_9 : wr.cell? ⟨gb318, 9, none⟩ = some (.int .i64 a0_9) := (blk_cell BK318.out 9).trans rfl
             have hcz30_10 : wr.cell? ⟨gb318, 10, none⟩ = some (.slice A0_10 l0_10.length c0_10) := (blk_cell BK318.out 10).trans rfl
             have hfz30_0 := blk_frozen BK318.out 0
             have hfz30_1 := blk_frozen BK318.out 1
             have hfz30_2 := blk_frozen BK318.out 2
             have hfz30_3 := blk_frozen BK318.out 3
             have hfz30_4 := blk_frozen BK318.out 4
             have hfz30_5 := blk_frozen BK318.out 5
             have hfz30_6 := blk_frozen BK318.out 6
             have hfz30_7 := blk_frozen BK318.out 7
             have hfz30_8 := blk_frozen BK318.out 8
             have hfz30_9 := blk_frozen BK318.out 9
             have hfz30_10 := blk_frozen BK318.out 10
             go_wp2_with (first | ((with_reducible refine gate_callee (f := 43) rfl ?_); refine goesL_ (some 35) rfl rfl Try.func43 (by kernel_rfl) rfl #[.slice A2 l2.length c2, .int .i64 x11_1] rfl (by (try simp only [List.map_toArray, List.map_cons, List.map_nil]); first | done | rfl | (simp only [List.length_drop, List.length_take]; rfl)) ?_; (with_reducible refine (bellwetherref14_In.calls k1 _ _ l2 x11_1 false _ ?side1 ?side2 A17.out).mono ?_); (case side1 => repeat (first | exact (Kd.C_below HR2.out HB.out) | (with_reducible refine Kd.C_alloc ?_ _) | (with_reducible refine Kd.C_drewN ?_ _) | (with_reducible refine Kd.C_drew ?_))); (case side2 => exact HC2.out); rintro e w' ⟨rfl, ⟨nd, rfl⟩⟩; refine ⟨_, rfl, ?_⟩; have p326 : 0 ≤ (x11_1 : Int) := of_decide_eq_true (by first | (with_reducible assumption) | assumption); have q326 : x11_1 < (t321.length : Int) := of_decide_eq_true (by first | (with_reducible assumption) | assumption); obtain ⟨ad326, e326, hx326_0⟩ := Kd.at_int (Kd.R_reads' HO_9.out).2.2 x11_1 p326 q326; cases e326; replace p326 := eq_true p326; replace q326 := eq_true q326; have p330 : 0 ≤ (x11_1 : Int) := of_decide_eq_true (by first | (with_reducible assumption) | assumption); have q330 : x11_1 < (t321.length : Int) := of_decide_eq_true (by first | (with_reducible assumption) | assumption); obtain ⟨ad330, e330, hx330_0⟩ := Kd.at_int (Kd.R_reads' HO_9.out).2.2 x11_1 p330 q330; obtain rfl : ad326 = ad330 := (by injection e330); replace p330 := eq_true p330; replace q330 := eq_true q330; have p331 : 0 ≤ (x11_1 : Int) := of_decide_eq_true (by first | (with_reducible assumption) | assumption); have q331 : x11_1 < (t321.length : Int) := of_decide_eq_true (by first | (with_reducible assumption) | assumption); obtain ⟨ad331, e331, hx331_0⟩ := Kd.at_int (Kd.R_reads' HO_9.out).2.2 x11_1 p331 q331; obtain rfl : ad326 = ad331 := (by injection e331); replace p331 := eq_true p331; replace q331 := eq_true q331; have p332 : 0 ≤ (x11_1 : Int) := of_decide_eq_true (by first | (with_reducible assumption) | assumption); have q332 : x11_1 < (t321.length : Int) := of_decide_eq_true (by first | (with_reducible assumption) | assumption); obtain ⟨ad332, e332, hx332_0⟩ := Kd.at_int (Kd.R_reads' HO_9.out).2.2 x11_1 p332 q332; obtain rfl : ad326 = ad332 := (by injection e332); replace p332 := eq_true p332; replace q332 := eq_true q332))
             go_roundg k1
             case measure => have := HK1.out; omega
             case rel => exact ⟨(rd t321 x11_1), (wrap64 (x11_1 + 1)), (by first | rfl | (simp; done) | (simp [*]; done)), (by first | rfl | (simp; done) | (simp [*]; done)), H', ⟨by have := HK1.out; omega⟩, ⟨by (with_reducible repeat (first | apply Kd.R_alloc | apply Kd.R_drewN | apply Kd.R_drew)); exact HO_9.out⟩, ⟨by (with_reducible repeat (first | refine blk_drewN ?_ _ | refine blk_drew ?_ | refine blk_alloc ?_ _)); exact BK318.out⟩, ⟨by repeat (first | (with_reducible first | exact HB.out | apply below_alloc | apply pw_below_drewN | apply below_drew1 | refine below_set ?_ GE318.out) | exact HB.out)⟩⟩
            ·
             rw [if_neg c29] at H
             have c29b0 : ((rd t321 x11_1) == x10_1) = false := beq_eq_false_iff_ne.mpr c29
             have c29b1 : ((rd t321 x11_1) != x10_1) = true := bne_iff_ne.mpr c29
             (have H3_ := Option.some.inj H; have H4_ := hT.out; rw [← H3_] at H4_; exact absurd H4_ (by decide))
           ·
            rw [if_neg c28] at H
            have c28b0 : decide (0 ≤ x10_1) = false := decide_eq_false c28
            clear c28
            have H' := Aside0.mk H
            clear H
            have hcz31_0 : wr.cell? ⟨gb318, 0, none⟩ = some (.int .i64 a0_0) := (blk_cell BK318.out 0).trans rfl
            have hcz31_1 : wr.cell? ⟨gb318, 1, none⟩ = some (.int .i64 a0_1) := (blk_cell BK318.out 1).trans rfl
            have hcz31_2 : wr.cell? ⟨gb318, 2, none⟩ = some (.int .i64 a0_2) := (blk_cell BK318.out 2).trans rfl
            have hcz31_3 : wr.cell? ⟨gb318, 3, none⟩ = some (.int .i64 a0_3) := (blk_cell BK318.out 3).trans rfl
            have hcz31_4 : wr.cell? ⟨gb318, 4, none⟩ = some (.int .i64 a0_4) := (blk_cell BK318.out 4).trans rfl
            have hcz31_5 : wr.cell? ⟨gb318, 5, none⟩ = some (.int .i64 a0_5) := (blk_cell BK318.out 5).trans rfl
            have hcz31_6 : wr.cell? ⟨gb318, 6, none⟩ = some (.int .i64 a0_6) := (blk_cell BK318.out 6).trans rfl
            have hcz31_7 : wr.cell? ⟨gb318, 7, none⟩ = some (.int .i64 a0_7) := (blk_cell BK318.out 7).trans rfl
            have hcz31_8 : wr.cell? ⟨gb318, 8, none⟩ = some (.int .i64 a0_8) := (blk_cell BK318.out 8).trans rfl
            have hcz31_9 : wr.cell? ⟨gb318, 9, none⟩ = some (.int .i64 a0_9) := (blk_cell BK318.out 9).trans rfl
            have hcz31_10 : wr.cell? ⟨gb318, 10, none⟩ = some (.slice A0_10 l0_10.length c0_10) := (blk_cell BK318.out 10).trans rfl
            have hfz31_0 := blk_frozen BK318.out 0
            have hfz31_1 := blk_frozen BK318.out 1
            have hfz31_2 := blk_frozen BK318.out 2
            have hfz31_3 := blk_frozen BK318.out 3
            have hfz31_4 := blk_frozen BK318.out 4
            have hfz31_5 := blk_frozen BK318.out 5
            have hfz31_6 := blk_frozen BK318.out 6
            have hfz31_7 := blk_frozen BK318.out 7
            have hfz31_8 := blk_frozen BK318.out 8
            have hfz31_9 := blk_frozen BK318.out 9
            have hfz31_10 := blk_frozen BK318.out 10
            go_wp2_with (first | ((with_reducible refine gate_callee (f := 43) rfl ?_); refine goesL_ (some 35) rfl rfl Try.func43 (by kernel_rfl) rfl #[.slice A2 l2.length c2, .int .i64 x11_1] rfl (by (try simp only [List.map_toArray, List.map_cons, List.map_nil]); first | done | rfl | (simp only [List.length_drop, List.length_take]; rfl)) ?_; (with_reducible refine (bellwetherref14_In.calls k1 _ _ l2 x11_1 false _ ?side1 ?side2 A17.out).mono ?_); (case side1 => repeat (first | exact (Kd.C_below HR2.out HB.out) | (with_reducible refine Kd.C_alloc ?_ _) | (with_reducible refine Kd.C_drewN ?_ _) | (with_reducible refine Kd.C_drew ?_))); (case side2 => exact HC2.out); rintro e w' ⟨rfl, ⟨nd, rfl⟩⟩; refine ⟨_, rfl, ?_⟩; have p326 : 0 ≤ (x11_1 : Int) := of_decide_eq_true (by first | (with_reducible assumption) | assumption); have q326 : x11_1 < (t321.length : Int) := of_decide_eq_true (by first | (with_reducible assumption) | assumption); obtain ⟨ad326, e326, hx326_0⟩ := Kd.at_int (Kd.R_reads' HO_9.out).2.2 x11_1 p326 q326; cases e326; replace p326 := eq_true p326; replace q326 := eq_true q326; have p330 : 0 ≤ (x11_1 : Int) := of_decide_eq_true (by first | (with_reducible assumption) | assumption); have q330 : x11_1 < (t321.length : Int) := of_decide_eq_true (by first | (with_reducible assumption) | assumption); obtain ⟨ad330, e330, hx330_0⟩ := Kd.at_int (Kd.R_reads' HO_9.out).2.2 x11_1 p330 q330; obtain rfl : ad326 = ad330 := (by injection e330); replace p330 := eq_true p330; replace q330 := eq_true q330; have p333 : 0 ≤ (x11_1 : Int) := of_decide_eq_true (by first | (with_reducible assumption) | assumption); have q333 : x11_1 < (t321.length : Int) := of_decide_eq_true (by first | (with_reducible assumption) | assumption); obtain ⟨ad333, e333, hx333_0⟩ := Kd.at_int (Kd.R_reads' HO_9.out).2.2 x11_1 p333 q333; obtain rfl : ad326 = ad333 := (by injection e333); replace p333 := eq_true p333; replace q333 := eq_true q333))
            go_roundg k1
            case measure => have := HK1.out; omega
            case rel => exact ⟨(rd t321 x11_1), (wrap64 (x11_1 + 1)), (by first | rfl | (simp; done) | (simp [*]; done)), (by first | rfl | (simp; done) | (simp [*]; done)), H', ⟨by have := HK1.out; omega⟩, ⟨by (with_reducible repeat (first | apply Kd.R_alloc | apply Kd.R_drewN | apply Kd.R_drew)); exact HO_9.out⟩, ⟨by (with_reducible repeat (first | refine blk_drewN ?_ _ | refine blk_drew ?_ | refine blk_alloc ?_ _)); exact BK318.out⟩, ⟨by repeat (first | (with_reducible first | exact HB.out | apply below_alloc | apply pw_below_drewN | apply below_drew1 | refine below_set ?_ GE318.out) | exact HB.out)⟩⟩
          ·
           rw [if_neg c27] at H
           have c27b0 : ((rd t321 x11_1) == 1) = false := beq_eq_false_iff_ne.mpr c27
           have c27b1 : ((rd t321 x11_1) != 1) = true := bne_iff_ne.mpr c27
           (have H3_ := Option.some.inj H; have H4_ := hT.out; rw [← H3_] at H4_; exact absurd H4_ (by decide))
        ·
         rw [if_neg c21] at H
         exact absurd H (by simp)
       ·
        rw [if_neg c20] at H
        exact absurd H (by simp)
     ·
      rw [if_neg c16] at H
      have c16b0 : decide (x11_1 < a0_0) = false := decide_eq_false c16
      clear c16
      by_cases c32 : x10_1 ≥ 0
      ·
       rw [if_pos c32] at H
       have c32b0 : decide (0 ≤ x10_1) = true := decide_eq_true c32
       clear c32
       replace H := Option.bind_eq_some_iff.mp H
       obtain ⟨t324, A330, H⟩ := H
       replace H : (some t324) = some r := H
       have A33 := Aside0.mk A330
       clear A330
       obtain rfl := Option.some.inj H
       have hcz34_0 : wr.cell? ⟨gb318, 0, none⟩ = some (.int .i64 a0_0) := (blk_cell BK318.out 0).trans rfl
       have hcz34_1 : wr.cell? ⟨gb318, 1, none⟩ = some (.int .i64 a0_1) := (blk_cell BK318.out 1).trans rfl
       have hcz34_2 : wr.cell? ⟨gb318, 2, none⟩ = some (.int .i64 a0_2) := (blk_cell BK318.out 2).trans rfl
       have hcz34_3 : wr.cell? ⟨gb318, 3, none⟩ = some (.int .i64 a0_3) := (blk_cell BK318.out 3).trans rfl
       have hcz34_4 : wr.cell? ⟨gb318, 4, none⟩ = some (.int .i64 a0_4) := (blk_cell BK318.out 4).trans rfl
       have hcz34_5 : wr.cell? ⟨gb318, 5, none⟩ = some (.int .i64 a0_5) := (blk_cell BK318.out 5).trans rfl
       have hcz34_6 : wr.cell? ⟨gb318, 6, none⟩ = some (.int .i64 a0_6) := (blk_cell BK318.out 6).trans rfl
       have hcz34_7 : wr.cell? ⟨gb318, 7, none⟩ = some (.int .i64 a0_7) := (blk_cell BK318.out 7).trans rfl
       have hcz34_8 : wr.cell? ⟨gb318, 8, none⟩ = some (.int .i64 a0_8) := (blk_cell BK318.out 8).trans rfl
       have hcz34_9 : wr.cell? ⟨gb318, 9, none⟩ = some (.int .i64 a0_9) := (blk_cell BK318.out 9).trans rfl
       have hcz34_10 : wr.cell? ⟨gb318, 10, none⟩ = some (.slice A0_10 l0_10.length c0_10) := (blk_cell BK318.out 10).trans rfl
       have hfz34_0 := blk_frozen BK318.out 0
       have hfz34_1 := blk_frozen BK318.out 1
       have hfz34_2 := blk_frozen BK318.out 2
       have hfz34_3 := blk_frozen BK318.out 3
       have hfz34_4 := blk_frozen BK318.out 4
       have hfz34_5 := blk_frozen BK318.out 5
       have hfz34_6 := blk_frozen BK318.out 6
       have hfz34_7 := blk_frozen BK318.out 7
       have hfz34_8 := blk_frozen BK318.out 8
       have hfz34_9 := blk_frozen BK318.out 9
       have hfz34_10 := blk_frozen BK318.out 10
       go_wp2_with (first | (go_at_call 45; (with_reducible refine (bellwetherlaw14_known.calls k1  t324 _ A33.out).mono ?_); rintro e w35 ⟨rfl, hb⟩; have n0_ := Aside0.mk (Kd.R_below (by (with_reducible repeat (first | apply Kd.R_alloc | apply Kd.R_drewN | apply Kd.R_drew)); exact HO_9.out) hb); have n1_ := Aside0.mk (blk_below (g := gb318) (o := .cells #[.int .i64 a0_0, .int .i64 a0_1, .int .i64 a0_2, .int .i64 a0_3, .int .i64 a0_4, .int .i64 a0_5, .int .i64 a0_6, .int .i64 a0_7, .int .i64 a0_8, .int .i64 a0_9, .slice A0_10 l0_10.length c0_10] 24 (0, 0)) (by (with_reducible repeat (first | refine blk_drewN ?_ _ | refine blk_drew ?_ | refine blk_alloc ?_ _)); exact BK318.out) hb); have n2_ := Aside0.mk (below_step (by repeat (first | (with_reducible first | exact HB.out | apply below_alloc | apply pw_below_drewN | apply below_drew1 | refine below_set ?_ GE318.out) | exact HB.out)) hb); clear HO_9; clear BK318; clear HB; have HO_9 := n0_; have BK318 := n1_; have HB := n2_; clear n0_ n1_ n2_; (try clear hb); (try clear hb2); (try clear hk); (try clear hi)))
       go_ret
       exact ⟨by first | rfl | (simp [errW_none, errW_some] <;> rfl) | (simp [*, errW_none, errW_some] <;> rfl), by repeat (first | (with_reducible first | exact HB.out | apply below_alloc | apply pw_below_drewN | apply below_drew1 | refine below_set ?_ GE318.out) | exact HB.out)⟩
      ·
       rw [if_neg c32] at H
       have c32b0 : decide (0 ≤ x10_1) = false := decide_eq_false c32
       clear c32
       (have H3_ := Option.some.inj H; have H4_ := hT.out; rw [← H3_] at H4_; exact absurd H4_ (by decide))
  ·
   rw [if_neg c8] at H
   have c8b0 : ((t321.length : Int) == a0_0) = false := beq_eq_false_iff_ne.mpr c8
   have c8b1 : ((t321.length : Int) != a0_0) = true := bne_iff_ne.mpr c8
   (have H3_ := Option.some.inj H; have H4_ := hT.out; rw [← H3_] at H4_; exact absurd H4_ (by decide))
 ·
  replace c6 := Bool.eq_false_iff.mpr c6
  subst c6
  have H1 : ((bellwetherlaw14_known.f k).bind fun t320 => (some t320)) = some r := by rw [if_neg (show ¬ (false = true) by decide)] at H; exact H
  clear H
  have H := H1
  clear H1
  replace H := Option.bind_eq_some_iff.mp H
  obtain ⟨t320, A360, H⟩ := H
  replace H : (some t320) = some r := H
  have A36 := Aside0.mk A360
  clear A360
  obtain rfl := Option.some.inj H
  go_enter Try.func13, Try.ntmps13
  go_wp2_with (first | ((with_reducible refine gate_dst (N := 4) rfl ?_); refine box_event ?hg (N := 4) ?hd (cs := #[.int .i64 a0_0, .int .i64 a0_1, .int .i64 a0_2, .int .i64 a0_3, .int .i64 a0_4, .int .i64 a0_5, .int .i64 a0_6, .int .i64 a0_7, .int .i64 a0_8, .int .i64 a0_9, .slice A0_10 l0_10.length c0_10]) (t := 24) ?hr ?_; (case hd => rfl); (case hg => rfl); (case hr => first | (go_simp; done) | (go_simp; rfl)); intro gb318 hg w37 hbox hb; have n0_ := Aside0.mk (below_step (by repeat (first | (with_reducible first | exact HB.out | apply below_alloc | apply pw_below_drewN | apply below_drew1) | exact HB.out)) hb); have n1_ := Aside0.mk (hbox); have n2_ := Aside0.mk ((by rw [hg]; exact (below_size (by repeat (first | (with_reducible first | exact HB.out | apply below_alloc | apply pw_below_drewN | apply below_drew1) | exact HB.out))) : w.heap.size ≤ gb318)); have n3_ := Aside0.mk ((by rw [hg]; exact (below_size (by repeat (first | (with_reducible first | exact HB.out | apply below_alloc | apply pw_below_drewN | apply below_drew1) | exact HB.out))) : w.heap.size ≤ gb318)); clear HB; have HB := n0_; have BK318 := n1_; have GW318 := n2_; have GE318 := n3_; clear n0_ n1_ n2_ n3_; clear hb hbox hg; have hcz38_0 : w37.cell? ⟨gb318, 0, none⟩ = some (.int .i64 a0_0) := (blk_cell BK318.out 0).trans rfl; have hcz38_1 : w37.cell? ⟨gb318, 1, none⟩ = some (.int .i64 a0_1) := (blk_cell BK318.out 1).trans rfl; have hcz38_2 : w37.cell? ⟨gb318, 2, none⟩ = some (.int .i64 a0_2) := (blk_cell BK318.out 2).trans rfl; have hcz38_3 : w37.cell? ⟨gb318, 3, none⟩ = some (.int .i64 a0_3) := (blk_cell BK318.out 3).trans rfl; have hcz38_4 : w37.cell? ⟨gb318, 4, none⟩ = some (.int .i64 a0_4) := (blk_cell BK318.out 4).trans rfl; have hcz38_5 : w37.cell? ⟨gb318, 5, none⟩ = some (.int .i64 a0_5) := (blk_cell BK318.out 5).trans rfl; have hcz38_6 : w37.cell? ⟨gb318, 6, none⟩ = some (.int .i64 a0_6) := (blk_cell BK318.out 6).trans rfl; have hcz38_7 : w37.cell? ⟨gb318, 7, none⟩ = some (.int .i64 a0_7) := (blk_cell BK318.out 7).trans rfl; have hcz38_8 : w37.cell? ⟨gb318, 8, none⟩ = some (.int .i64 a0_8) := (blk_cell BK318.out 8).trans rfl; have hcz38_9 : w37.cell? ⟨gb318, 9, none⟩ = some (.int .i64 a0_9) := (blk_cell BK318.out 9).trans rfl; have hcz38_10 : w37.cell? ⟨gb318, 10, none⟩ = some (.slice A0_10 l0_10.length c0_10) := (blk_cell BK318.out 10).trans rfl; have hfz38_0 := blk_frozen BK318.out 0; have hfz38_1 := blk_frozen BK318.out 1; have hfz38_2 := blk_frozen BK318.out 2; have hfz38_3 := blk_frozen BK318.out 3; have hfz38_4 := blk_frozen BK318.out 4; have hfz38_5 := blk_frozen BK318.out 5; have hfz38_6 := blk_frozen BK318.out 6; have hfz38_7 := blk_frozen BK318.out 7; have hfz38_8 := blk_frozen BK318.out 8; have hfz38_9 := blk_frozen BK318.out 9; have hfz38_10 := blk_frozen BK318.out 10) | ((with_reducible refine gate_callee (f := 57) rfl ?_); refine goesL_ (some 14) rfl rfl Try.func57 (by kernel_rfl) rfl #[.agg #[.int .i64 a0_0, .int .i64 a0_1, .int .i64 a0_2, .int .i64 a0_3, .int .i64 a0_4, .int .i64 a0_5, .int .i64 a0_6, .int .i64 a0_7, .int .i64 a0_8, .int .i64 a0_9, .slice A0_10 l0_10.length c0_10], .slice A2 l2.length c2] rfl (by (try simp only [List.map_toArray, List.map_cons, List.map_nil]); first | done | rfl | (simp only [List.length_drop, List.length_take]; rfl)) ?_; (with_reducible refine (bellwetherlaw14_few.calls k a0_0 a0_1 a0_2 a0_3 a0_4 a0_5 a0_6 a0_7 a0_8 a0_9 _ _ l0_10 _ _ l2 false _ ?side1 ?side2 ?side3 ?side4 A5.out).mono ?_); (case side1 => repeat (first | exact (Kd.C_below HR0_10.out HB.out) | (with_reducible refine Kd.C_alloc ?_ _) | (with_reducible refine Kd.C_drewN ?_ _) | (with_reducible refine Kd.C_drew ?_))); (case side2 => exact HC0_10.out); (case side3 => repeat (first | exact (Kd.C_below HR2.out HB.out) | (with_reducible refine Kd.C_alloc ?_ _) | (with_reducible refine Kd.C_drewN ?_ _) | (with_reducible refine Kd.C_drew ?_))); (case side4 => exact HC2.out); rintro e w39 ⟨rfl, hb⟩; refine ⟨_, rfl, ?_⟩; have n0_ := Aside0.mk (blk_below (g := gb318) (o := .cells #[.int .i64 a0_0, .int .i64 a0_1, .int .i64 a0_2, .int .i64 a0_3, .int .i64 a0_4, .int .i64 a0_5, .int .i64 a0_6, .int .i64 a0_7, .int .i64 a0_8, .int .i64 a0_9, .slice A0_10 l0_10.length c0_10] 24 (0, 0)) (by (with_reducible repeat (first | refine blk_drewN ?_ _ | refine blk_drew ?_ | refine blk_alloc ?_ _)); exact BK318.out) hb); have n1_ := Aside0.mk (below_step (by repeat (first | (with_reducible first | exact HB.out | apply below_alloc | apply pw_below_drewN | apply below_drew1 | refine below_set ?_ GE318.out) | exact HB.out)) hb); clear BK318; clear HB; have BK318 := n0_; have HB := n1_; clear n0_ n1_; (try clear hb); (try clear hb2); (try clear hk); (try clear hi)) | ((with_reducible refine gate_callee (f := 45) rfl ?_); refine goesL_ (some 16) rfl rfl Try.func45 (by kernel_rfl) rfl #[] rfl (by (try simp only [List.map_toArray, List.map_cons, List.map_nil]); first | done | rfl | (simp only [List.length_drop, List.length_take]; rfl)) ?_; (with_reducible refine (bellwetherlaw14_known.calls k  t320 _ A36.out).mono ?_); rintro e w40 ⟨rfl, hb⟩; refine ⟨_, rfl, ?_⟩; have n0_ := Aside0.mk (blk_below (g := gb318) (o := .cells #[.int .i64 a0_0, .int .i64 a0_1, .int .i64 a0_2, .int .i64 a0_3, .int .i64 a0_4, .int .i64 a0_5, .int .i64 a0_6, .int .i64 a0_7, .int .i64 a0_8, .int .i64 a0_9, .slice A0_10 l0_10.length c0_10] 24 (0, 0)) (by (with_reducible repeat (first | refine blk_drewN ?_ _ | refine blk_drew ?_ | refine blk_alloc ?_ _)); exact BK318.out) hb); have n1_ := Aside0.mk (below_step (by repeat (first | (with_reducible first | exact HB.out | apply below_alloc | apply pw_below_drewN | apply below_drew1 | refine below_set ?_ GE318.out) | exact HB.out)) hb); clear BK318; clear HB; have BK318 := n0_; have HB := n1_; clear n0_ n1_; (try clear hb); (try clear hb2); (try clear hk); (try clear hi)))
  go_ret
  exact ⟨by first | rfl | (simp [errW_none, errW_some] <;> rfl) | (simp [*, errW_none, errW_some] <;> rfl), by repeat (first | (with_reducible first | exact HB.out | apply below_alloc | apply pw_below_drewN | apply below_drew1 | refine below_set ?_ GE318.out) | exact HB.out)⟩
end Go.Proofs.Ytfannnojhkkaiaa.X
