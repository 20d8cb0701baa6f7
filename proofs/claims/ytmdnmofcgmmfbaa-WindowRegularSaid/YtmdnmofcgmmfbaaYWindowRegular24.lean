import Derived.Test.YtmdnmofcgmmfbaaYWindowRegular12
import Derived.Test.YtmdnmofcgmmfbaaYWindowRegular15
import Derived.Test.YtmdnmofcgmmfbaaYWindowRegular21
import Derived.Test.YtmdnmofcgmmfbaaYWindowRegular23
namespace Go.Proofs.Ytmdnmofcgmmfbaa.X
open Go.RowKit Go.Proofs.YtmdnmofcgmmfbaaW.PrintWords Go.Proofs.YtmdnmofcgmmfbaaW.PrintLast Go.Proofs.YtmdnmofcgmmfbaaW.PrintMore
attribute [local go_sem] max2_int min2_int max_two min_two max_three min_three max_four min_four   -- for this text's walks alone
set_option linter.unusedVariables false
set_option linter.unusedSimpArgs false
mutual
def bellwetherref37_Regular.l0 : Nat → List (List (S28)) → List Int → Int → Int → Int → Int → Int → Int → Int → Int → Int → Int → Int → Int → List Int → Option (Int)
 | 0, _, _, _, _, _, _, _, _, _, _, _, _, _, _, _ => none
 | k + 1, x1, x2, x9, x10, x431000, x431001, x431002, x431003, x431004, x431005, x431006, x431007, x431008, x431009, x431010 => if x10 < (x1.length : Int) then ((bellwetherref37_Common.f k x1 x2 x10).bind fun t433 => (if t433 = true then (bellwetherref37_Regular.l0 k x1 x2 x9 (wrap64 (x10 + 1)) x431000 x431001 x431002 x431003 x431004 x431005 x431006 x431007 x431008 x431009 x431010) else (some 7))) else (bellwetherref37_Regular.l1 k x1 x2 x9 (-1) x9 x431000 x431001 x431002 x431003 x431004 x431005 x431006 x431007 x431008 x431009 x431010)
def bellwetherref37_Regular.l1 : Nat → List (List (S28)) → List Int → Int → Int → Int → Int → Int → Int → Int → Int → Int → Int → Int → Int → Int → List Int → Option (Int)
 | 0, _, _, _, _, _, _, _, _, _, _, _, _, _, _, _, _ => none
 | k + 1, x1, x2, x9, x11, x12, x431000, x431001, x431002, x431003, x431004, x431005, x431006, x431007, x431008, x431009, x431010 => if x12 < (x1.length : Int) then (if 0 < (x2.length : Int) then ((bellwetherref36_At.f x1 x12 (rd x2 0)).bind fun bt435 => (if bt435.1 = true then (if x11 ≥ 0 then (if (wrap64 (x12 - x11)) < x431003 then (some 13) else (bellwetherref37_Regular.l1 k x1 x2 x9 x12 (wrap64 (x12 + 1)) x431000 x431001 x431002 x431003 x431004 x431005 x431006 x431007 x431008 x431009 x431010)) else (bellwetherref37_Regular.l1 k x1 x2 x9 x12 (wrap64 (x12 + 1)) x431000 x431001 x431002 x431003 x431004 x431005 x431006 x431007 x431008 x431009 x431010)) else (bellwetherref37_Regular.l1 k x1 x2 x9 x11 (wrap64 (x12 + 1)) x431000 x431001 x431002 x431003 x431004 x431005 x431006 x431007 x431008 x431009 x431010))) else (none)) else (bellwetherref37_Regular.l2 k x1 x2 x9 x431000 x431001 x431002 x431003 x431004 x431005 x431006 x431007 x431008 x431009 x431010)
def bellwetherref37_Regular.l2 : Nat → List (List (S28)) → List Int → Int → Int → Int → Int → Int → Int → Int → Int → Int → Int → Int → List Int → Option (Int)
 | 0, _, _, _, _, _, _, _, _, _, _, _, _, _, _ => none
 | k + 1, x1, x2, x13, x431000, x431001, x431002, x431003, x431004, x431005, x431006, x431007, x431008, x431009, x431010 => if (wrap64 ((x1.length : Int) - x13)) ≥ x431003 then (bellwetherref37_Regular.l3 k x1 x2 x13 false x13 x431000 x431001 x431002 x431003 x431004 x431005 x431006 x431007 x431008 x431009 x431010) else (some 0)
def bellwetherref37_Regular.l3 : Nat → List (List (S28)) → List Int → Int → Bool → Int → Int → Int → Int → Int → Int → Int → Int → Int → Int → Int → List Int → Option (Int)
 | 0, _, _, _, _, _, _, _, _, _, _, _, _, _, _, _, _ => none
 | k + 1, x1, x2, x13, x14, x15, x431000, x431001, x431002, x431003, x431004, x431005, x431006, x431007, x431008, x431009, x431010 => if x15 < (wrap64 (x13 + x431003)) then (if x14 = true then (bellwetherref37_Regular.l3 k x1 x2 x13 true (wrap64 (x15 + 1)) x431000 x431001 x431002 x431003 x431004 x431005 x431006 x431007 x431008 x431009 x431010) else (if 0 < (x2.length : Int) then ((bellwetherref36_At.f x1 x15 (rd x2 0)).bind fun bt445 => (bellwetherref37_Regular.l3 k x1 x2 x13 bt445.1 (wrap64 (x15 + 1)) x431000 x431001 x431002 x431003 x431004 x431005 x431006 x431007 x431008 x431009 x431010)) else (none))) else (if x14 = true then (bellwetherref37_Regular.l2 k x1 x2 (wrap64 (x13 + 1)) x431000 x431001 x431002 x431003 x431004 x431005 x431006 x431007 x431008 x431009 x431010) else (some 10))
end
def bellwetherref37_Regular.f (k : Nat) (a0_0 : Int) (a0_1 : Int) (a0_2 : Int) (a0_3 : Int) (a0_4 : Int) (a0_5 : Int) (a0_6 : Int) (a0_7 : Int) (a0_8 : Int) (a0_9 : Int) (l0_10 : List Int) (l1 : List (List (S28))) (l2 : List Int) (a3 : Int) : Option (Int) := (bellwetherref03_Plain.f k a0_0 a0_1 a0_2 a0_3 a0_4 a0_5 a0_6 a0_7 a0_8 a0_9 l0_10).bind fun t431 => (if t431 = 0 then (if (l2.length : Int) = 0 then (some 0) else (bellwetherref37_Regular.l0 k l1 l2 (mx a3 0) (mx a3 0) a0_0 a0_1 a0_2 a0_3 a0_4 a0_5 a0_6 a0_7 a0_8 a0_9 l0_10)) else ((bellwetherref03_Plain.f k a0_0 a0_1 a0_2 a0_3 a0_4 a0_5 a0_6 a0_7 a0_8 a0_9 l0_10).bind fun t432 => (some t432)))
theorem bellwetherref37_Regular.fld28_0 (v0 v1 v2 v3 v4 v5 v6 : Value) (w : World) : (Instr.field 28 (.agg #[v0, v1, v2, v3, v4, v5, v6]) 0).run Try.prog w = .ok (v0) w := by kernel_rfl
attribute [local go_sem] bellwetherref37_Regular.fld28_0
set_option maxHeartbeats 8000000 in
set_option maxRecDepth 100000 in
theorem bellwetherref37_Regular.calls (k : Nat) (a0_0 : Int) (a0_1 : Int) (a0_2 : Int) (a0_3 : Int) (a0_4 : Int) (a0_5 : Int) (a0_6 : Int) (a0_7 : Int) (a0_8 : Int) (a0_9 : Int) (A0_10 : Option Addr) (c0_10 : Nat) (l0_10 : List Int) (A1 : Option Addr) (c1 : Nat) (l1 : List (List (S28))) (A2 : Option Addr) (c2 : Nat) (l2 : List Int) (a3 : Int) (r : Int) (w : World) (hr0_10 : Kd.C (Kd.int .i64) w A0_10 l0_10.length l0_10) (hc0_10 : l0_10.length ≤ c0_10) (hr1 : Kd.C (Kd.slice 28 k28) w A1 l1.length l1) (hc1 : l1.length ≤ c1) (hr2 : Kd.C (Kd.int .i64) w A2 l2.length l2) (hc2 : l2.length ≤ c2) (h : bellwetherref37_Regular.f k a0_0 a0_1 a0_2 a0_3 a0_4 a0_5 a0_6 a0_7 a0_8 a0_9 l0_10 l1 l2 a3 = some r) :
  Calls Try.prog 29 #[.agg #[.int .i64 a0_0, .int .i64 a0_1, .int .i64 a0_2, .int .i64 a0_3, .int .i64 a0_4, .int .i64 a0_5, .int .i64 a0_6, .int .i64 a0_7, .int .i64 a0_8, .int .i64 a0_9, .slice A0_10 l0_10.length c0_10], .slice A1 l1.length c1, .slice A2 l2.length c2, .int .i64 a3] w fun e w' => e = .returned (.int .i64 r) ∧ Below w.heap.size w w' := by
 have hu42 := Try.underlying42
 have hu28 := Try.underlying28
 have HR0_10 := Aside0.mk hr0_10
 have HC0_10 := Aside0.mk hc0_10
 clear hr0_10 hc0_10
 have HR1 := Aside0.mk hr1
 have HC1 := Aside0.mk hc1
 clear hr1 hc1
 have HR2 := Aside0.mk hr2
 have HC2 := Aside0.mk hc2
 clear hr2 hc2
 have HB := Aside0.mk (Below.refl w.heap.size w)
 have H : ((bellwetherref03_Plain.f k a0_0 a0_1 a0_2 a0_3 a0_4 a0_5 a0_6 a0_7 a0_8 a0_9 l0_10).bind fun t431 => (if t431 = 0 then (if (l2.length : Int) = 0 then (some 0) else (bellwetherref37_Regular.l0 k l1 l2 (mx a3 0) (mx a3 0) a0_0 a0_1 a0_2 a0_3 a0_4 a0_5 a0_6 a0_7 a0_8 a0_9 l0_10)) else ((bellwetherref03_Plain.f k a0_0 a0_1 a0_2 a0_3 a0_4 a0_5 a0_6 a0_7 a0_8 a0_9 l0_10).bind fun t432 => (some t432)))) = some r := h
 clear h
 replace H := Option.bind_eq_some_iff.mp H
 obtain ⟨t431, A50, H⟩ := H
 replace H : (if t431 = 0 then (if (l2.length : Int) = 0 then (some 0) else (bellwetherref37_Regular.l0 k l1 l2 (mx a3 0) (mx a3 0) a0_0 a0_1 a0_2 a0_3 a0_4 a0_5 a0_6 a0_7 a0_8 a0_9 l0_10)) else ((bellwetherref03_Plain.f k a0_0 a0_1 a0_2 a0_3 a0_4 a0_5 a0_6 a0_7 a0_8 a0_9 l0_10).bind fun t432 => (some t432))) = some r := H
 have A5 := Aside0.mk A50
 clear A50
 by_cases c6 : t431 = 0
 ·
  rw [if_pos c6] at H
  have c6b0 : (t431 == 0) = true := beq_iff_eq.mpr c6
  have c6b1 : (t431 != 0) = false := bne_eq_false_iff_eq.mpr c6
  clear c6
  by_cases c7 : (l2.length : Int) = 0
  ·
   rw [if_pos c7] at H
   have c7b0 : ((l2.length : Int) == 0) = true := beq_iff_eq.mpr c7
   have c7b1 : ((l2.length : Int) != 0) = false := bne_eq_false_iff_eq.mpr c7
   clear c7
   obtain rfl := Option.some.inj H
   go_enter Try.func29, Try.ntmps29
   go_wp2_with (first | ((with_reducible refine gate_dst (N := 4) rfl ?_); refine box_event ?hg (N := 4) ?hd (cs := #[.int .i64 a0_0, .int .i64 a0_1, .int .i64 a0_2, .int .i64 a0_3, .int .i64 a0_4, .int .i64 a0_5, .int .i64 a0_6, .int .i64 a0_7, .int .i64 a0_8, .int .i64 a0_9, .slice A0_10 l0_10.length c0_10]) (t := 42) ?hr ?_; (case hd => rfl); (case hg => rfl); (case hr => first | (go_simp; done) | (go_simp; rfl)); intro gb430 hg w8 hbox hb; have n0_ := Aside0.mk (below_step (by repeat (first | (with_reducible first | exact HB.out | apply below_alloc | apply pw_below_drewN | apply below_drew1) | exact HB.out)) hb); have n1_ := Aside0.mk (hbox); have n2_ := Aside0.mk ((by rw [hg]; exact (below_size (by repeat (first | (with_reducible first | exact HB.out | apply below_alloc | apply pw_below_drewN | apply below_drew1) | exact HB.out))) : w.heap.size ≤ gb430)); have n3_ := Aside0.mk ((by rw [hg]; exact (below_size (by repeat (first | (with_reducible first | exact HB.out | apply below_alloc | apply pw_below_drewN | apply below_drew1) | exact HB.out))) : w.heap.size ≤ gb430)); clear HB; have HB := n0_; have BK430 := n1_; have GW430 := n2_; have GE430 := n3_; clear n0_ n1_ n2_ n3_; clear hb hbox hg; have hcz9_0 : w8.cell? ⟨gb430, 0, none⟩ = some (.int .i64 a0_0) := (blk_cell BK430.out 0).trans rfl; have hcz9_1 : w8.cell? ⟨gb430, 1, none⟩ = some (.int .i64 a0_1) := (blk_cell BK430.out 1).trans rfl; have hcz9_2 : w8.cell? ⟨gb430, 2, none⟩ = some (.int .i64 a0_2) := (blk_cell BK430.out 2).trans rfl; have hcz9_3 : w8.cell? ⟨gb430, 3, none⟩ = some (.int .i64 a0_3) := (blk_cell BK430.out 3).trans rfl; have hcz9_4 : w8.cell? ⟨gb430, 4, none⟩ = some (.int .i64 a0_4) := (blk_cell BK430.out 4).trans rfl; have hcz9_5 : w8.cell? ⟨gb430, 5, none⟩ = some (.int .i64 a0_5) := (blk_cell BK430.out 5).trans rfl; have hcz9_6 : w8.cell? ⟨gb430, 6, none⟩ = some (.int .i64 a0_6) := (blk_cell BK430.out 6).trans rfl; have hcz9_7 : w8.cell? ⟨gb430, 7, none⟩ = some (.int .i64 a0_7) := (blk_cell BK430.out 7).trans rfl; have hcz9_8 : w8.cell? ⟨gb430, 8, none⟩ = some (.int .i64 a0_8) := (blk_cell BK430.out 8).trans rfl; have hcz9_9 : w8.cell? ⟨gb430, 9, none⟩ = some (.int .i64 a0_9) := (blk_cell BK430.out 9).trans rfl; have hcz9_10 : w8.cell? ⟨gb430, 10, none⟩ = some (.slice A0_10 l0_10.length c0_10) := (blk_cell BK430.out 10).trans rfl; have hfz9_0 := blk_frozen BK430.out 0; have hfz9_1 := blk_frozen BK430.out 1; have hfz9_2 := blk_frozen BK430.out 2; have hfz9_3 := blk_frozen BK430.out 3; have hfz9_4 := blk_frozen BK430.out 4; have hfz9_5 := blk_frozen BK430.out 5; have hfz9_6 := blk_frozen BK430.out 6; have hfz9_7 := blk_frozen BK430.out 7; have hfz9_8 := blk_frozen BK430.out 8; have hfz9_9 := blk_frozen BK430.out 9; have hfz9_10 := blk_frozen BK430.out 10) | ((with_reducible refine gate_callee (f := 34) rfl ?_); refine goesL_ (some 17) rfl rfl Try.func34 (by kernel_rfl) rfl #[.agg #[.int .i64 a0_0, .int .i64 a0_1, .int .i64 a0_2, .int .i64 a0_3, .int .i64 a0_4, .int .i64 a0_5, .int .i64 a0_6, .int .i64 a0_7, .int .i64 a0_8, .int .i64 a0_9, .slice A0_10 l0_10.length c0_10]] rfl (by (try simp only [List.map_toArray, List.map_cons, List.map_nil]); first | done | rfl | (simp only [List.length_drop, List.length_take]; rfl)) ?_; (with_reducible refine (bellwetherref03_Plain.calls k a0_0 a0_1 a0_2 a0_3 a0_4 a0_5 a0_6 a0_7 a0_8 a0_9 _ _ l0_10 t431 _ ?side1 ?side2 A5.out).mono ?_); (case side1 => repeat (first | exact (Kd.C_below HR0_10.out HB.out) | (with_reducible refine Kd.C_alloc ?_ _) | (with_reducible refine Kd.C_drewN ?_ _) | (with_reducible refine Kd.C_drew ?_))); (case side2 => exact HC0_10.out); rintro e w10 ⟨rfl, hb⟩; refine ⟨_, rfl, ?_⟩; have n0_ := Aside0.mk (blk_below (g := gb430) (o := .cells #[.int .i64 a0_0, .int .i64 a0_1, .int .i64 a0_2, .int .i64 a0_3, .int .i64 a0_4, .int .i64 a0_5, .int .i64 a0_6, .int .i64 a0_7, .int .i64 a0_8, .int .i64 a0_9, .slice A0_10 l0_10.length c0_10] 42 (0, 0)) (by (with_reducible repeat (first | refine blk_drewN ?_ _ | refine blk_drew ?_ | refine blk_alloc ?_ _)); exact BK430.out) hb); have n1_ := Aside0.mk (below_step (by repeat (first | (with_reducible first | exact HB.out | apply below_alloc | apply pw_below_drewN | apply below_drew1 | refine below_set ?_ GE430.out) | exact HB.out)) hb); clear BK430; clear HB; have BK430 := n0_; have HB := n1_; clear n0_ n1_; (try clear hb); (try clear hb2); (try clear hk); (try clear hi)))
   go_ret
   exact ⟨by first | rfl | (simp [errW_none, errW_some] <;> rfl) | (simp [*, errW_none, errW_some] <;> rfl), by repeat (first | (with_reducible first | exact HB.out | apply below_alloc | apply pw_below_drewN | apply below_drew1 | refine below_set ?_ GE430.out) | exact HB.out)⟩
  ·
   rw [if_neg c7] at H
   have c7b0 : ((l2.length : Int) == 0) = false := beq_eq_false_iff_ne.mpr c7
   have c7b1 : ((l2.length : Int) != 0) = true := bne_iff_ne.mpr c7
   have c7b2 : ¬ (l2 = []) := fun h_ => c7 (by rw [h_]; rfl)
   obtain ⟨ji11, hji11⟩ : ∃ j_ : Int, (mx a3 0) = j_ := ⟨_, rfl⟩
   replace H : (bellwetherref37_Regular.l0 k l1 l2 ji11 ji11 a0_0 a0_1 a0_2 a0_3 a0_4 a0_5 a0_6 a0_7 a0_8 a0_9 l0_10) = some r := by first | (rw [hji11] at H; exact H) | (simp only [hji11] at H ⊢; exact H)
   (try rw [hji11] at A5)
   (try (have hji11l : 0 ≤ ji11 := by (rw [← hji11]; unfold mx; (repeat' split) <;> omega)))
   (try (have hji11m : 0 ≤ ji11 := by omega))
   have hji11_ : (if a3 < 0 then 0 else a3) = ji11 := hji11
   (try (have hji11n_ := hji11_; simp only [Int.ofNat_lt, Int.ofNat_le] at hji11n_))
   have H' := Aside0.mk H
   clear H
   go_enter Try.func29, Try.ntmps29
   go_wp2_with (first | ((with_reducible refine gate_dst (N := 4) rfl ?_); refine box_event ?hg (N := 4) ?hd (cs := #[.int .i64 a0_0, .int .i64 a0_1, .int .i64 a0_2, .int .i64 a0_3, .int .i64 a0_4, .int .i64 a0_5, .int .i64 a0_6, .int .i64 a0_7, .int .i64 a0_8, .int .i64 a0_9, .slice A0_10 l0_10.length c0_10]) (t := 42) ?hr ?_; (case hd => rfl); (case hg => rfl); (case hr => first | (go_simp; done) | (go_simp; rfl)); intro gb430 hg w12 hbox hb; have n0_ := Aside0.mk (below_step (by repeat (first | (with_reducible first | exact HB.out | apply below_alloc | apply pw_below_drewN | apply below_drew1) | exact HB.out)) hb); have n1_ := Aside0.mk (hbox); have n2_ := Aside0.mk ((by rw [hg]; exact (below_size (by repeat (first | (with_reducible first | exact HB.out | apply below_alloc | apply pw_below_drewN | apply below_drew1) | exact HB.out))) : w.heap.size ≤ gb430)); have n3_ := Aside0.mk ((by rw [hg]; exact (below_size (by repeat (first | (with_reducible first | exact HB.out | apply below_alloc | apply pw_below_drewN | apply below_drew1) | exact HB.out))) : w.heap.size ≤ gb430)); clear HB; have HB := n0_; have BK430 := n1_; have GW430 := n2_; have GE430 := n3_; clear n0_ n1_ n2_ n3_; clear hb hbox hg; have hcz13_0 : w12.cell? ⟨gb430, 0, none⟩ = some (.int .i64 a0_0) := (blk_cell BK430.out 0).trans rfl; have hcz13_1 : w12.cell? ⟨gb430, 1, none⟩ = some (.int .i64 a0_1) := (blk_cell BK430.out 1).trans rfl; have hcz13_2 : w12.cell? ⟨gb430, 2, none⟩ = some (.int .i64 a0_2) := (blk_cell BK430.out 2).trans rfl; have hcz13_3 : w12.cell? ⟨gb430, 3, none⟩ = some (.int .i64 a0_3) := (blk_cell BK430.out 3).trans rfl; have hcz13_4 : w12.cell? ⟨gb430, 4, none⟩ = some (.int .i64 a0_4) := (blk_cell BK430.out 4).trans rfl; have hcz13_5 : w12.cell? ⟨gb430, 5, none⟩ = some (.int .i64 a0_5) := (blk_cell BK430.out 5).trans rfl; have hcz13_6 : w12.cell? ⟨gb430, 6, none⟩ = some (.int .i64 a0_6) := (blk_cell BK430.out 6).trans rfl; have hcz13_7 : w12.cell? ⟨gb430, 7, none⟩ = some (.int .i64 a0_7) := (blk_cell BK430.out 7).trans rfl; have hcz13_8 : w12.cell? ⟨gb430, 8, none⟩ = some (.int .i64 a0_8) := (blk_cell BK430.out 8).trans rfl; have hcz13_9 : w12.cell? ⟨gb430, 9, none⟩ = some (.int .i64 a0_9) := (blk_cell BK430.out 9).trans rfl; have hcz13_10 : w12.cell? ⟨gb430, 10, none⟩ = some (.slice A0_10 l0_10.length c0_10) := (blk_cell BK430.out 10).trans rfl; have hfz13_0 := blk_frozen BK430.out 0; have hfz13_1 := blk_frozen BK430.out 1; have hfz13_2 := blk_frozen BK430.out 2; have hfz13_3 := blk_frozen BK430.out 3; have hfz13_4 := blk_frozen BK430.out 4; have hfz13_5 := blk_frozen BK430.out 5; have hfz13_6 := blk_frozen BK430.out 6; have hfz13_7 := blk_frozen BK430.out 7; have hfz13_8 := blk_frozen BK430.out 8; have hfz13_9 := blk_frozen BK430.out 9; have hfz13_10 := blk_frozen BK430.out 10) | ((with_reducible refine gate_callee (f := 34) rfl ?_); refine goesL_ (some 17) rfl rfl Try.func34 (by kernel_rfl) rfl #[.agg #[.int .i64 a0_0, .int .i64 a0_1, .int .i64 a0_2, .int .i64 a0_3, .int .i64 a0_4, .int .i64 a0_5, .int .i64 a0_6, .int .i64 a0_7, .int .i64 a0_8, .int .i64 a0_9, .slice A0_10 l0_10.length c0_10]] rfl (by (try simp only [List.map_toArray, List.map_cons, List.map_nil]); first | done | rfl | (simp only [List.length_drop, List.length_take]; rfl)) ?_; (with_reducible refine (bellwetherref03_Plain.calls k a0_0 a0_1 a0_2 a0_3 a0_4 a0_5 a0_6 a0_7 a0_8 a0_9 _ _ l0_10 t431 _ ?side1 ?side2 A5.out).mono ?_); (case side1 => repeat (first | exact (Kd.C_below HR0_10.out HB.out) | (with_reducible refine Kd.C_alloc ?_ _) | (with_reducible refine Kd.C_drewN ?_ _) | (with_reducible refine Kd.C_drew ?_))); (case side2 => exact HC0_10.out); rintro e w14 ⟨rfl, hb⟩; refine ⟨_, rfl, ?_⟩; have n0_ := Aside0.mk (blk_below (g := gb430) (o := .cells #[.int .i64 a0_0, .int .i64 a0_1, .int .i64 a0_2, .int .i64 a0_3, .int .i64 a0_4, .int .i64 a0_5, .int .i64 a0_6, .int .i64 a0_7, .int .i64 a0_8, .int .i64 a0_9, .slice A0_10 l0_10.length c0_10] 42 (0, 0)) (by (with_reducible repeat (first | refine blk_drewN ?_ _ | refine blk_drew ?_ | refine blk_alloc ?_ _)); exact BK430.out) hb); have n1_ := Aside0.mk (below_step (by repeat (first | (with_reducible first | exact HB.out | apply below_alloc | apply pw_below_drewN | apply below_drew1 | refine below_set ?_ GE430.out) | exact HB.out)) hb); clear BK430; clear HB; have BK430 := n0_; have HB := n1_; clear n0_ n1_; (try clear hb); (try clear hb2); (try clear hk); (try clear hi)))
   go_loopg [10] k (fun kq v10 w' => ∃ (x10_1 : Int), v10 = .int .i64 x10_1 ∧ Aside0 (bellwetherref37_Regular.l0 kq l1 l2 ji11 x10_1 a0_0 a0_1 a0_2 a0_3 a0_4 a0_5 a0_6 a0_7 a0_8 a0_9 l0_10 = some r) ∧ Aside0 (kq ≤ k) ∧ Aside0 (w'.heap[gb430]? = some (.cells #[.int .i64 a0_0, .int .i64 a0_1, .int .i64 a0_2, .int .i64 a0_3, .int .i64 a0_4, .int .i64 a0_5, .int .i64 a0_6, .int .i64 a0_7, .int .i64 a0_8, .int .i64 a0_9, (.slice A0_10 l0_10.length c0_10)] 42 (0, 0))) ∧ Aside0 (Below w.heap.size w w'))
   case atStart => exact ⟨(ji11), (by first | rfl | (simp; done) | (simp only [← hji11] <;> (first | rfl | simp)) | (simp [*]; done)), H', ⟨Nat.le_refl _⟩, ⟨by (with_reducible repeat (first | refine blk_drewN ?_ _ | refine blk_drew ?_ | refine blk_alloc ?_ _)); exact BK430.out⟩, ⟨by repeat (first | (with_reducible first | exact HB.out | apply below_alloc | apply pw_below_drewN | apply below_drew1 | refine below_set ?_ GE430.out) | exact HB.out)⟩⟩
   case round =>
    clear H'
    try clear c1
    try clear c2
    try clear p2
    try clear c3
    try clear c6
    try clear c6b0
    try clear c6b1
    try clear c7
    try clear c7b0
    try clear c7b1
    try clear c7b2
    try clear hcz13_0
    try clear hcz13_1
    try clear hcz13_10
    try clear hcz13_2
    try clear hcz13_3
    try clear hcz13_4
    try clear hcz13_5
    try clear hcz13_6
    try clear hcz13_7
    try clear hcz13_8
    try clear hcz13_9
    try clear hcz9_0
    try clear hcz9_1
    try clear hcz9_10
    try clear hcz9_2
    try clear hcz9_3
    try clear hcz9_4
    try clear hcz9_5
    try clear hcz9_6
    try clear hcz9_7
    try clear hcz9_8
    try clear hcz9_9
    try clear hfz13_0
    try clear hfz13_1
    try clear hfz13_10
    try clear hfz13_2
    try clear hfz13_3
    try clear hfz13_4
    try clear hfz13_5
    try clear hfz13_6
    try clear hfz13_7
    try clear hfz13_8
    try clear hfz13_9
    try clear hfz9_0
    try clear hfz9_1
    try clear hfz9_10
    try clear hfz9_2
    try clear hfz9_3
    try clear hfz9_4
    try clear hfz9_5
    try clear hfz9_6
    try clear hfz9_7
    try clear hfz9_8
    try clear hfz9_9
    obtain ⟨x10_1, rfl, HA, HK1, BK430, HB⟩ := hrel
    cases gk with
    | zero => exact absurd HA.out (by simp [bellwetherref37_Regular.l0])
    | succ k1 =>
     have H := HA.out
     clear HA
     simp only [bellwetherref37_Regular.l0] at H
     by_cases c15 : x10_1 < (l1.length : Int)
     ·
      rw [if_pos c15] at H
      have c15b0 : decide (x10_1 < (l1.length : Int)) = true := decide_eq_true c15
      clear c15
      replace H := Option.bind_eq_some_iff.mp H
      obtain ⟨t433, A160, H⟩ := H
      replace H : (if t433 = true then (bellwetherref37_Regular.l0 k1 l1 l2 ji11 (wrap64 (x10_1 + 1)) a0_0 a0_1 a0_2 a0_3 a0_4 a0_5 a0_6 a0_7 a0_8 a0_9 l0_10) else (some 7)) = some r := H
      have A16 := Aside0.mk A160
      clear A160
      by_cases c17 : t433 = true
      ·
       subst c17
       have H1 : (bellwetherref37_Regular.l0 k1 l1 l2 ji11 (wrap64 (x10_1 + 1)) a0_0 a0_1 a0_2 a0_3 a0_4 a0_5 a0_6 a0_7 a0_8 a0_9 l0_10) = some r := by rw [if_pos rfl] at H; exact H
       clear H
       have H := H1
       clear H1
       have H' := Aside0.mk H
       clear H
       go_wp2_with (first | ((with_reducible refine gate_callee (f := 27) rfl ?_); refine goesL_ (some 36) rfl rfl Try.func27 (by kernel_rfl) rfl #[.slice A1 l1.length c1, .slice A2 l2.length c2, .int .i64 x10_1] rfl (by (try simp only [List.map_toArray, List.map_cons, List.map_nil]); first | done | rfl | (simp only [List.length_drop, List.length_take]; rfl)) ?_; (with_reducible refine (bellwetherref37_Common.calls k1 _ _ l1 _ _ l2 x10_1 true _ ?side1 ?side2 ?side3 ?side4 A16.out).mono ?_); (case side1 => repeat (first | exact (Kd.C_below HR1.out HB.out) | (with_reducible refine Kd.C_alloc ?_ _) | (with_reducible refine Kd.C_drewN ?_ _) | (with_reducible refine Kd.C_drew ?_))); (case side2 => exact HC1.out); (case side3 => repeat (first | exact (Kd.C_below HR2.out HB.out) | (with_reducible refine Kd.C_alloc ?_ _) | (with_reducible refine Kd.C_drewN ?_ _) | (with_reducible refine Kd.C_drew ?_))); (case side4 => exact HC2.out); rintro e w18 ⟨rfl, hb⟩; refine ⟨_, rfl, ?_⟩; have n0_ := Aside0.mk (blk_below (g := gb430) (o := .cells #[.int .i64 a0_0, .int .i64 a0_1, .int .i64 a0_2, .int .i64 a0_3, .int .i64 a0_4, .int .i64 a0_5, .int .i64 a0_6, .int .i64 a0_7, .int .i64 a0_8, .int .i64 a0_9, .slice A0_10 l0_10.length c0_10] 42 (0, 0)) (by (with_reducible repeat (first | refine blk_drewN ?_ _ | refine blk_drew ?_ | refine blk_alloc ?_ _)); exact BK430.out) hb); have n1_ := Aside0.mk (below_step (by repeat (first | (with_reducible first | exact HB.out | apply below_alloc | apply pw_below_drewN | apply below_drew1 | refine below_set ?_ GE430.out) | exact HB.out)) hb); clear BK430; clear HB; have BK430 := n0_; have HB := n1_; clear n0_ n1_; (try clear hb); (try clear hb2); (try clear hk); (try clear hi)))
       go_roundg k1
       case measure => have := HK1.out; omega
       case rel => exact ⟨(wrap64 (x10_1 + 1)), (by first | rfl | (simp; done) | (simp [*]; done)), H', ⟨by have := HK1.out; omega⟩, ⟨by (with_reducible repeat (first | refine blk_drewN ?_ _ | refine blk_drew ?_ | refine blk_alloc ?_ _)); exact BK430.out⟩, ⟨by repeat (first | (with_reducible first | exact HB.out | apply below_alloc | apply pw_below_drewN | apply below_drew1 | refine below_set ?_ GE430.out) | exact HB.out)⟩⟩
      ·
       replace c17 := Bool.eq_false_iff.mpr c17
       subst c17
       have H1 : (some 7) = some r := by rw [if_neg (show ¬ (false = true) by decide)] at H; exact H
       clear H
       have H := H1
       clear H1
       obtain rfl := Option.some.inj H
       go_wp2_with (first | ((with_reducible refine gate_callee (f := 27) rfl ?_); refine goesL_ (some 36) rfl rfl Try.func27 (by kernel_rfl) rfl #[.slice A1 l1.length c1, .slice A2 l2.length c2, .int .i64 x10_1] rfl (by (try simp only [List.map_toArray, List.map_cons, List.map_nil]); first | done | rfl | (simp only [List.length_drop, List.length_take]; rfl)) ?_; (with_reducible refine (bellwetherref37_Common.calls k1 _ _ l1 _ _ l2 x10_1 false _ ?side1 ?side2 ?side3 ?side4 A16.out).mono ?_); (case side1 => repeat (first | exact (Kd.C_below HR1.out HB.out) | (with_reducible refine Kd.C_alloc ?_ _) | (with_reducible refine Kd.C_drewN ?_ _) | (with_reducible refine Kd.C_drew ?_))); (case side2 => exact HC1.out); (case side3 => repeat (first | exact (Kd.C_below HR2.out HB.out) | (with_reducible refine Kd.C_alloc ?_ _) | (with_reducible refine Kd.C_drewN ?_ _) | (with_reducible refine Kd.C_drew ?_))); (case side4 => exact HC2.out); rintro e w19 ⟨rfl, hb⟩; refine ⟨_, rfl, ?_⟩; have n0_ := Aside0.mk (blk_below (g := gb430) (o := .cells #[.int .i64 a0_0, .int .i64 a0_1, .int .i64 a0_2, .int .i64 a0_3, .int .i64 a0_4, .int .i64 a0_5, .int .i64 a0_6, .int .i64 a0_7, .int .i64 a0_8, .int .i64 a0_9, .slice A0_10 l0_10.length c0_10] 42 (0, 0)) (by (with_reducible repeat (first | refine blk_drewN ?_ _ | refine blk_drew ?_ | refine blk_alloc ?_ _)); exact BK430.out) hb); have n1_ := Aside0.mk (below_step (by repeat (first | (with_reducible first | exact HB.out | apply below_alloc | apply pw_below_drewN | apply below_drew1 | refine below_set ?_ GE430.out) | exact HB.out)) hb); clear BK430; clear HB; have BK430 := n0_; have HB := n1_; clear n0_ n1_; (try clear hb); (try clear hb2); (try clear hk); (try clear hi)))
       go_ret
       exact ⟨by first | rfl | (simp [errW_none, errW_some] <;> rfl) | (simp only [← hji11]; first | rfl | (simp [errW_none, errW_some] <;> rfl)) | (simp [*, errW_none, errW_some] <;> rfl), by repeat (first | (with_reducible first | exact HB.out | apply below_alloc | apply pw_below_drewN | apply below_drew1 | refine below_set ?_ GE430.out) | exact HB.out)⟩
     ·
      rw [if_neg c15] at H
      have c15b0 : decide (x10_1 < (l1.length : Int)) = false := decide_eq_false c15
      clear c15
      have H' := Aside0.mk H
      clear H
      go_wp2
      go_loopg [11, 12] k1 (fun kq v11 v12 w' => ∃ (x11_2 : Int) (x12_2 : Int), v11 = .int .i64 x11_2 ∧ v12 = .int .i64 x12_2 ∧ Aside0 (bellwetherref37_Regular.l1 kq l1 l2 ji11 x11_2 x12_2 a0_0 a0_1 a0_2 a0_3 a0_4 a0_5 a0_6 a0_7 a0_8 a0_9 l0_10 = some r) ∧ Aside0 (kq ≤ k1) ∧ Aside0 (w'.heap[gb430]? = some (.cells #[.int .i64 a0_0, .int .i64 a0_1, .int .i64 a0_2, .int .i64 a0_3, .int .i64 a0_4, .int .i64 a0_5, .int .i64 a0_6, .int .i64 a0_7, .int .i64 a0_8, .int .i64 a0_9, (.slice A0_10 l0_10.length c0_10)] 42 (0, 0))) ∧ Aside0 (Below w.heap.size w w'))
      case atStart => exact ⟨((-1)), (ji11), (by first | rfl | (simp; done) | (simp [*]; done)), (by first | rfl | (simp; done) | (simp only [← hji11] <;> (first | rfl | simp)) | (simp [*]; done)), H', ⟨Nat.le_refl _⟩, ⟨by (with_reducible repeat (first | refine blk_drewN ?_ _ | refine blk_drew ?_ | refine blk_alloc ?_ _)); exact BK430.out⟩, ⟨by repeat (first | (with_reducible first | exact HB.out | apply below_alloc | apply pw_below_drewN | apply below_drew1 | refine below_set ?_ GE430.out) | exact HB.out)⟩⟩
      case round =>
       clear H'
       try clear c1
       try clear c2
       try clear p2
       try clear c3
       try clear c6
       try clear c6b0
       try clear c6b1
       try clear p6
       try clear c7
       try clear c7b0
       try clear c7b1
       try clear c7b2
       try clear c15
       try clear c15b0
       try clear c17
       try clear hcz13_0
       try clear hcz13_1
       try clear hcz13_10
       try clear hcz13_2
       try clear hcz13_3
       try clear hcz13_4
       try clear hcz13_5
       try clear hcz13_6
       try clear hcz13_7
       try clear hcz13_8
       try clear hcz13_9
       try clear hcz9_0
       try clear hcz9_1
       try clear hcz9_10
       try clear hcz9_2
       try clear hcz9_3
       try clear hcz9_4
       try clear hcz9_5
       try clear hcz9_6
       try clear hcz9_7
       try clear hcz9_8
       try clear hcz9_9
       try clear hfz13_0
       try clear hfz13_1
       try clear hfz13_10
       try clear hfz13_2
       try clear hfz13_3
       try clear hfz13_4
       try clear hfz13_5
       try clear hfz13_6
       try clear hfz13_7
       try clear hfz13_8
       try clear hfz13_9
       try clear hfz9_0
       try clear hfz9_1
       try clear hfz9_10
       try clear hfz9_2
       try clear hfz9_3
       try clear hfz9_4
       try clear hfz9_5
       try clear hfz9_6
       try clear hfz9_7
       try clear hfz9_8
       try clear hfz9_9
       try clear p2
       obtain ⟨x11_2, x12_2, rfl, rfl, HA, HK2, BK430, HB⟩ := hrel
       cases gk with
       | zero => exact absurd HA.out (by simp [bellwetherref37_Regular.l1])
       | succ k2 =>
        have H := HA.out
        clear HA
        simp only [bellwetherref37_Regular.l1] at H
        by_cases c20 : x12_2 < (l1.length : Int)
        ·
         rw [if_pos c20] at H
         have c20b0 : decide (x12_2 < (l1.length : Int)) = true := decide_eq_true c20
         clear c20
         by_cases c21 : 0 < (l2.length : Int)
         ·
          rw [if_pos c21] at H
          have c21b0 : decide (0 < (l2.length : Int)) = true := decide_eq_true c21
          have c21b1 : decide (0 < l2.length) = true := decide_eq_true (by omega)
          clear c21
          replace H := Option.bind_eq_some_iff.mp H
          obtain ⟨⟨t435, t436, t437, t438, t439, t440, t441⟩, A220, H⟩ := H
          replace H : (if t435 = true then (if x11_2 ≥ 0 then (if (wrap64 (x12_2 - x11_2)) < a0_3 then (some 13) else (bellwetherref37_Regular.l1 k2 l1 l2 ji11 x12_2 (wrap64 (x12_2 + 1)) a0_0 a0_1 a0_2 a0_3 a0_4 a0_5 a0_6 a0_7 a0_8 a0_9 l0_10)) else (bellwetherref37_Regular.l1 k2 l1 l2 ji11 x12_2 (wrap64 (x12_2 + 1)) a0_0 a0_1 a0_2 a0_3 a0_4 a0_5 a0_6 a0_7 a0_8 a0_9 l0_10)) else (bellwetherref37_Regular.l1 k2 l1 l2 ji11 x11_2 (wrap64 (x12_2 + 1)) a0_0 a0_1 a0_2 a0_3 a0_4 a0_5 a0_6 a0_7 a0_8 a0_9 l0_10)) = some r := H
          have A22 := Aside0.mk A220
          clear A220
          by_cases c23 : t435 = true
          ·
           subst c23
           have H1 : (if x11_2 ≥ 0 then (if (wrap64 (x12_2 - x11_2)) < a0_3 then (some 13) else (bellwetherref37_Regular.l1 k2 l1 l2 ji11 x12_2 (wrap64 (x12_2 + 1)) a0_0 a0_1 a0_2 a0_3 a0_4 a0_5 a0_6 a0_7 a0_8 a0_9 l0_10)) else (bellwetherref37_Regular.l1 k2 l1 l2 ji11 x12_2 (wrap64 (x12_2 + 1)) a0_0 a0_1 a0_2 a0_3 a0_4 a0_5 a0_6 a0_7 a0_8 a0_9 l0_10)) = some r := by rw [if_pos rfl] at H; exact H
           clear H
           have H := H1
           clear H1
           by_cases c24 : x11_2 ≥ 0
           ·
            rw [if_pos c24] at H
            have c24b0 : decide (0 ≤ x11_2) = true := decide_eq_true c24
            clear c24
            by_cases c25 : (wrap64 (x12_2 - x11_2)) < a0_3
            ·
             rw [if_pos c25] at H
             have c25b0 : decide ((wrap64 (x12_2 - x11_2)) < a0_3) = true := decide_eq_true c25
             clear c25
             obtain rfl := Option.some.inj H
             have p434 : 0 ≤ (0 : Int) := (by omega)
             have q434 : 0 < (l2.length : Int) := of_decide_eq_true (by first | (with_reducible assumption) | assumption)
             obtain ⟨ad434, e434, hx434_0⟩ := Kd.at_int HR2.out 0 p434 q434
             cases e434
             have qi434 : (0 < l2.length) = True := eq_true (by omega)
             (try rw [show ((0 : Int)).toNat = 0 from rfl] at hx434_0)
             (try rw [Addr.add_zero'] at hx434_0)
             replace hx434_0 := (HB.out.cell (World.block_lt_of_cell? w _ hx434_0)).trans hx434_0
             replace p434 := eq_true p434
             replace q434 := eq_true q434
             go_wp2_with (first | ((with_reducible refine gate_callee (f := 13) rfl ?_); refine goesL_ (some 50) rfl rfl Try.func13 (by kernel_rfl) rfl #[.slice A1 l1.length c1, .int .i64 x12_2, .int .i64 (rd l2 0)] rfl (by (try simp only [List.map_toArray, List.map_cons, List.map_nil]); first | done | rfl | (simp only [List.length_drop, List.length_take]; rfl)) ?_; (with_reducible refine (bellwetherref36_At.calls (fun k_ => k_ < w.heap.size) _ _ l1 x12_2 (rd l2 0) true t436 t437 t438 t439 t440 t441 _ ?side1 A22.out).mono ?_); (case side1 => exact Kd.V_mk HC1.out (Kd.F_below (Kd.C_F (Kd.heap_slice 28 k28_heap) HR1.out) (by repeat (first | (with_reducible first | exact HB.out | apply below_alloc | apply pw_below_drewN | apply below_drew1 | refine below_set ?_ GE430.out) | exact HB.out)))); rintro e w26 ⟨v442, rfl, ho0, hb⟩; refine ⟨_, rfl, ?_⟩; have n0_ := Aside0.mk (Kd.V_lower (Kd.V_mono (ok' := fun k_ => k_ ≠ gb430) ho0 (fun k_ hk_ => Or.elim hk_ (fun hs_ => fun e_ => Nat.not_le.2 hs_ (by rw [e_]; exact GW430.out)) (fun hn_ => (Kd.freshB (g := gb430) (o := .cells #[.int .i64 a0_0, .int .i64 a0_1, .int .i64 a0_2, .int .i64 a0_3, .int .i64 a0_4, .int .i64 a0_5, .int .i64 a0_6, .int .i64 a0_7, .int .i64 a0_8, .int .i64 a0_9, .slice A0_10 l0_10.length c0_10] 42 (0, 0)) (by (with_reducible repeat (first | refine blk_drewN ?_ _ | refine blk_drew ?_ | refine blk_alloc ?_ _)); exact BK430.out) k_ hn_)))) (below_size (by repeat (first | (with_reducible first | exact HB.out | apply below_alloc | apply pw_below_drewN | apply below_drew1 | refine below_set ?_ GE430.out) | exact HB.out)))); have n1_ := Aside0.mk (blk_below (g := gb430) (o := .cells #[.int .i64 a0_0, .int .i64 a0_1, .int .i64 a0_2, .int .i64 a0_3, .int .i64 a0_4, .int .i64 a0_5, .int .i64 a0_6, .int .i64 a0_7, .int .i64 a0_8, .int .i64 a0_9, .slice A0_10 l0_10.length c0_10] 42 (0, 0)) (by (with_reducible repeat (first | refine blk_drewN ?_ _ | refine blk_drew ?_ | refine blk_alloc ?_ _)); exact BK430.out) hb); have n2_ := Aside0.mk (below_step (by repeat (first | (with_reducible first | exact HB.out | apply below_alloc | apply pw_below_drewN | apply below_drew1 | refine below_set ?_ GE430.out) | exact HB.out)) hb); clear BK430; clear HB; have HO443 := n0_; have BK430 := n1_; have HB := n2_; clear n0_ n1_ n2_; (try clear hb); (try clear hb2); (try clear hk); (try clear hi); (try clear ho0); have hcz27_0 : w26.cell? ⟨gb430, 0, none⟩ = some (.int .i64 a0_0) := (blk_cell BK430.out 0).trans rfl; have hcz27_1 : w26.cell? ⟨gb430, 1, none⟩ = some (.int .i64 a0_1) := (blk_cell BK430.out 1).trans rfl; have hcz27_2 : w26.cell? ⟨gb430, 2, none⟩ = some (.int .i64 a0_2) := (blk_cell BK430.out 2).trans rfl; have hcz27_3 : w26.cell? ⟨gb430, 3, none⟩ = some (.int .i64 a0_3) := (blk_cell BK430.out 3).trans rfl; have hcz27_4 : w26.cell? ⟨gb430, 4, none⟩ = some (.int .i64 a0_4) := (blk_cell BK430.out 4).trans rfl; have hcz27_5 : w26.cell? ⟨gb430, 5, none⟩ = some (.int .i64 a0_5) := (blk_cell BK430.out 5).trans rfl; have hcz27_6 : w26.cell? ⟨gb430, 6, none⟩ = some (.int .i64 a0_6) := (blk_cell BK430.out 6).trans rfl; have hcz27_7 : w26.cell? ⟨gb430, 7, none⟩ = some (.int .i64 a0_7) := (blk_cell BK430.out 7).trans rfl; have hcz27_8 : w26.cell? ⟨gb430, 8, none⟩ = some (.int .i64 a0_8) := (blk_cell BK430.out 8).trans rfl; have hcz27_9 : w26.cell? ⟨gb430, 9, none⟩ = some (.int .i64 a0_9) := (blk_cell BK430.out 9).trans rfl; have hcz27_10 : w26.cell? ⟨gb430, 10, none⟩ = some (.slice A0_10 l0_10.length c0_10) := (blk_cell BK430.out 10).trans rfl; have hfz27_0 := blk_frozen BK430.out 0; have hfz27_1 := blk_frozen BK430.out 1; have hfz27_2 := blk_frozen BK430.out 2; have hfz27_3 := blk_frozen BK430.out 3; have hfz27_4 := blk_frozen BK430.out 4; have hfz27_5 := blk_frozen BK430.out 5; have hfz27_6 := blk_frozen BK430.out 6; have hfz27_7 := blk_frozen BK430.out 7; have hfz27_8 := blk_frozen BK430.out 8; have hfz27_9 := blk_frozen BK430.out 9; have hfz27_10 := blk_frozen BK430.out 10))
             go_ret
             exact ⟨by first | rfl | (simp [errW_none, errW_some] <;> rfl) | (simp only [← hji11]; first | rfl | (simp [errW_none, errW_some] <;> rfl)) | (simp [*, errW_none, errW_some] <;> rfl), by repeat (first | (with_reducible first | exact HB.out | apply below_alloc | apply pw_below_drewN | apply below_drew1 | refine below_set ?_ GE430.out) | exact HB.out)⟩
            ·
             rw [if_neg c25] at H
             have c25b0 : decide ((wrap64 (x12_2 - x11_2)) < a0_3) = false := decide_eq_false c25
             clear c25
             have H' := Aside0.mk H
             clear H
             have p434 : 0 ≤ (0 : Int) := (by omega)
             have q434 : 0 < (l2.length : Int) := of_decide_eq_true (by first | (with_reducible assumption) | assumption)
             obtain ⟨ad434, e434, hx434_0⟩ := Kd.at_int HR2.out 0 p434 q434
             cases e434
             have qi434 : (0 < l2.length) = True := eq_true (by omega)
             (try rw [show ((0 : Int)).toNat = 0 from rfl] at hx434_0)
             (try rw [Addr.add_zero'] at hx434_0)
             replace hx434_0 := (HB.out.cell (World.block_lt_of_cell? w _ hx434_0)).trans hx434_0
             replace p434 := eq_true p434
             replace q434 := eq_true q434
             go_wp2_with (first | ((with_reducible refine gate_callee (f := 13) rfl ?_); refine goesL_ (some 50) rfl rfl Try.func13 (by kernel_rfl) rfl #[.slice A1 l1.length c1, .int .i64 x12_2, .int .i64 (rd l2 0)] rfl (by (try simp only [List.map_toArray, List.map_cons, List.map_nil]); first | done | rfl | (simp only [List.length_drop, List.length_take]; rfl)) ?_; (with_reducible refine (bellwetherref36_At.calls (fun k_ => k_ < w.heap.size) _ _ l1 x12_2 (rd l2 0) true t436 t437 t438 t439 t440 t441 _ ?side1 A22.out).mono ?_); (case side1 => exact Kd.V_mk HC1.out (Kd.F_below (Kd.C_F (Kd.heap_slice 28 k28_heap) HR1.out) (by repeat (first | (with_reducible first | exact HB.out | apply below_alloc | apply pw_below_drewN | apply below_drew1 | refine below_set ?_ GE430.out) | exact HB.out)))); rintro e w28 ⟨v442, rfl, ho0, hb⟩; refine ⟨_, rfl, ?_⟩; have n0_ := Aside0.mk (Kd.V_lower (Kd.V_mono (ok' := fun k_ => k_ ≠ gb430) ho0 (fun k_ hk_ => Or.elim hk_ (fun hs_ => fun e_ => Nat.not_le.2 hs_ (by rw [e_]; exact GW430.out)) (fun hn_ => (Kd.freshB (g := gb430) (o := .cells #[.int .i64 a0_0, .int .i64 a0_1, .int .i64 a0_2, .int .i64 a0_3, .int .i64 a0_4, .int .i64 a0_5, .int .i64 a0_6, .int .i64 a0_7, .int .i64 a0_8, .int .i64 a0_9, .slice A0_10 l0_10.length c0_10] 42 (0, 0)) (by (with_reducible repeat (first | refine blk_drewN ?_ _ | refine blk_drew ?_ | refine blk_alloc ?_ _)); exact BK430.out) k_ hn_)))) (below_size (by repeat (first | (with_reducible first | exact HB.out | apply below_alloc | apply pw_below_drewN | apply below_drew1 | refine below_set ?_ GE430.out) | exact HB.out)))); have n1_ := Aside0.mk (blk_below (g := gb430) (o := .cells #[.int .i64 a0_0, .int .i64 a0_1, .int .i64 a0_2, .int .i64 a0_3, .int .i64 a0_4, .int .i64 a0_5, .int .i64 a0_6, .int .i64 a0_7, .int .i64 a0_8, .int .i64 a0_9, .slice A0_10 l0_10.length c0_10] 42 (0, 0)) (by (with_reducible repeat (first | refine blk_drewN ?_ _ | refine blk_drew ?_ | refine blk_alloc ?_ _)); exact BK430.out) hb); have n2_ := Aside0.mk (below_step (by repeat (first | (with_reducible first | exact HB.out | apply below_alloc | apply pw_below_drewN | apply below_drew1 | refine below_set ?_ GE430.out) | exact HB.out)) hb); clear BK430; clear HB; have HO443 := n0_; have BK430 := n1_; have HB := n2_; clear n0_ n1_ n2_; (try clear hb); (try clear hb2); (try clear hk); (try clear hi); (try clear ho0); have hcz29_0 : w28.cell? ⟨gb430, 0, none⟩ = some (.int .i64 a0_0) := (blk_cell BK430.out 0).trans rfl; have hcz29_1 : w28.cell? ⟨gb430, 1, none⟩ = some (.int .i64 a0_1) := (blk_cell BK430.out 1).trans rfl; have hcz29_2 : w28.cell? ⟨gb430, 2, none⟩ = some (.int .i64 a0_2) := (blk_cell BK430.out 2).trans rfl; have hcz29_3 : w28.cell? ⟨gb430, 3, none⟩ = some (.int .i64 a0_3) := (blk_cell BK430.out 3).trans rfl; have hcz29_4 : w28.cell? ⟨gb430, 4, none⟩ = some (.int .i64 a0_4) := (blk_cell BK430.out 4).trans rfl; have hcz29_5 : w28.cell? ⟨gb430, 5, none⟩ = some (.int .i64 a0_5) := (blk_cell BK430.out 5).trans rfl; have hcz29_6 : w28.cell? ⟨gb430, 6, none⟩ = some (.int .i64 a0_6) := (blk_cell BK430.out 6).trans rfl; have hcz29_7 : w28.cell? ⟨gb430, 7, none⟩ = some (.int .i64 a0_7) := (blk_cell BK430.out 7).trans rfl; have hcz29_8 : w28.cell? ⟨gb430, 8, none⟩ = some (.int .i64 a0_8) := (blk_cell BK430.out 8).trans rfl; have hcz29_9 : w28.cell? ⟨gb430, 9, none⟩ = some (.int .i64 a0_9) := (blk_cell BK430.out 9).trans rfl; have hcz29_10 : w28.cell? ⟨gb430, 10, none⟩ = some (.slice A0_10 l0_10.length c0_10) := (blk_cell BK430.out 10).trans rfl; have hfz29_0 := blk_frozen BK430.out 0; have hfz29_1 := blk_frozen BK430.out 1; have hfz29_2 := blk_frozen BK430.out 2; have hfz29_3 := blk_frozen BK430.out 3; have hfz29_4 := blk_frozen BK430.out 4; have hfz29_5 := blk_frozen BK430.out 5; have hfz29_6 := blk_frozen BK430.out 6; have hfz29_7 := blk_frozen BK430.out 7; have hfz29_8 := blk_frozen BK430.out 8; have hfz29_9 := blk_frozen BK430.out 9; have hfz29_10 := blk_frozen BK430.out 10))
             go_roundg k2
             case measure => have := HK1.out; have := HK2.out; omega
             case rel => exact ⟨(x12_2), (wrap64 (x12_2 + 1)), (by first | rfl | (simp; done) | (simp [*]; done)), (by first | rfl | (simp; done) | (simp [*]; done)), H', ⟨by have := HK1.out; have := HK2.out; omega⟩, ⟨by (with_reducible repeat (first | refine blk_drewN ?_ _ | refine blk_drew ?_ | refine blk_alloc ?_ _)); exact BK430.out⟩, ⟨by repeat (first | (with_reducible first | exact HB.out | apply below_alloc | apply pw_below_drewN | apply below_drew1 | refine below_set ?_ GE430.out) | exact HB.out)⟩⟩
           ·
            rw [if_neg c24] at H
            have c24b0 : decide (0 ≤ x11_2) = false := decide_eq_false c24
            clear c24
            have H' := Aside0.mk H
            clear H
            have p434 : 0 ≤ (0 : Int) := (by omega)
            have q434 : 0 < (l2.length : Int) := of_decide_eq_true (by first | (with_reducible assumption) | assumption)
            obtain ⟨ad434, e434, hx434_0⟩ := Kd.at_int HR2.out 0 p434 q434
            cases e434
            have qi434 : (0 < l2.length) = True := eq_true (by omega)
            (try rw [show ((0 : Int)).toNat = 0 from rfl] at hx434_0)
            (try rw [Addr.add_zero'] at hx434_0)
            replace hx434_0 := (HB.out.cell (World.block_lt_of_cell? w _ hx434_0)).trans hx434_0
            replace p434 := eq_true p434
            replace q434 := eq_true q434
            go_wp2_with (first | ((with_reducible refine gate_callee (f := 13) rfl ?_); refine goesL_ (some 50) rfl rfl Try.func13 (by kernel_rfl) rfl #[.slice A1 l1.length c1, .int .i64 x12_2, .int .i64 (rd l2 0)] rfl (by (try simp only [List.map_toArray, List.map_cons, List.map_nil]); first | done | rfl | (simp only [List.length_drop, List.length_take]; rfl)) ?_; (with_reducible refine (bellwetherref36_At.calls (fun k_ => k_ < w.heap.size) _ _ l1 x12_2 (rd l2 0) true t436 t437 t438 t439 t440 t441 _ ?side1 A22.out).mono ?_); (case side1 => exact Kd.V_mk HC1.out (Kd.F_below (Kd.C_F (Kd.heap_slice 28 k28_heap) HR1.out) (by repeat (first | (with_reducible first | exact HB.out | apply below_alloc | apply pw_below_drewN | apply below_drew1 | refine below_set ?_ GE430.out) | exact HB.out)))); rintro e w30 ⟨v442, rfl, ho0, hb⟩; refine ⟨_, rfl, ?_⟩; have n0_ := Aside0.mk (Kd.V_lower (Kd.V_mono (ok' := fun k_ => k_ ≠ gb430) ho0 (fun k_ hk_ => Or.elim hk_ (fun hs_ => fun e_ => Nat.not_le.2 hs_ (by rw [e_]; exact GW430.out)) (fun hn_ => (Kd.freshB (g := gb430) (o := .cells #[.int .i64 a0_0, .int .i64 a0_1, .int .i64 a0_2, .int .i64 a0_3, .int .i64 a0_4, .int .i64 a0_5, .int .i64 a0_6, .int .i64 a0_7, .int .i64 a0_8, .int .i64 a0_9, .slice A0_10 l0_10.length c0_10] 42 (0, 0)) (by (with_reducible repeat (first | refine blk_drewN ?_ _ | refine blk_drew ?_ | refine blk_alloc ?_ _)); exact BK430.out) k_ hn_)))) (below_size (by repeat (first | (with_reducible first | exact HB.out | apply below_alloc | apply pw_below_drewN | apply below_drew1 | refine below_set ?_ GE430.out) | exact HB.out)))); have n1_ := Aside0.mk (blk_below (g := gb430) (o := .cells #[.int .i64 a0_0, .int .i64 a0_1, .int .i64 a0_2, .int .i64 a0_3, .int .i64 a0_4, .int .i64 a0_5, .int .i64 a0_6, .int .i64 a0_7, .int .i64 a0_8, .int .i64 a0_9, .slice A0_10 l0_10.length c0_10] 42 (0, 0)) (by (with_reducible repeat (first | refine blk_drewN ?_ _ | refine blk_drew ?_ | refine blk_alloc ?_ _)); exact BK430.out) hb); have n2_ := Aside0.mk (below_step (by repeat (first | (with_reducible first | exact HB.out | apply below_alloc | apply pw_below_drewN | apply below_drew1 | refine below_set ?_ GE430.out) | exact HB.out)) hb); clear BK430; clear HB; have HO443 := n0_; have BK430 := n1_; have HB := n2_; clear n0_ n1_ n2_; (try clear hb); (try clear hb2); (try clear hk); (try clear hi); (try clear ho0)))
            go_roundg k2
            case measure => have := HK1.out; have := HK2.out; omega
            case rel => exact ⟨(x12_2), (wrap64 (x12_2 + 1)), (by first | rfl | (simp; done) | (simp [*]; done)), (by first | rfl | (simp; done) | (simp [*]; done)), H', ⟨by have := HK1.out; have := HK2.out; omega⟩, ⟨by (with_reducible repeat (first | refine blk_drewN ?_ _ | refine blk_drew ?_ | refine blk_alloc ?_ _)); exact BK430.out⟩, ⟨by repeat (first | (with_reducible first | exact HB.out | apply below_alloc | apply pw_below_drewN | apply below_drew1 | refine below_set ?_ GE430.out) | exact HB.out)⟩⟩
          ·
           replace c23 := Bool.eq_false_iff.mpr c23
           subst c23
           have H1 : (bellwetherref37_Regular.l1 k2 l1 l2 ji11 x11_2 (wrap64 (x12_2 + 1)) a0_0 a0_1 a0_2 a0_3 a0_4 a0_5 a0_6 a0_7 a0_8 a0_9 l0_10) = some r := by rw [if_neg (show ¬ (false = true) by decide)] at H; exact H
           clear H
           have H := H1
           clear H1
           have H' := Aside0.mk H
           clear H
           have p434 : 0 ≤ (0 : Int) := (by omega)
           have q434 : 0 < (l2.length : Int) := of_decide_eq_true (by first | (with_reducible assumption) | assumption)
           obtain ⟨ad434, e434, hx434_0⟩ := Kd.at_int HR2.out 0 p434 q434
           cases e434
           have qi434 : (0 < l2.length) = True := eq_true (by omega)
           (try rw [show ((0 : Int)).toNat = 0 from rfl] at hx434_0)
           (try rw [Addr.add_zero'] at hx434_0)
           replace hx434_0 := (HB.out.cell (World.block_lt_of_cell? w _ hx434_0)).trans hx434_0
           replace p434 := eq_true p434
           replace q434 := eq_true q434
           go_wp2_with (first | ((with_reducible refine gate_callee (f := 13) rfl ?_); refine goesL_ (some 50) rfl rfl Try.func13 (by kernel_rfl) rfl #[.slice A1 l1.length c1, .int .i64 x12_2, .int .i64 (rd l2 0)] rfl (by (try simp only [List.map_toArray, List.map_cons, List.map_nil]); first | done | rfl | (simp only [List.length_drop, List.length_take]; rfl)) ?_; (with_reducible refine (bellwetherref36_At.calls (fun k_ => k_ < w.heap.size) _ _ l1 x12_2 (rd l2 0) false t436 t437 t438 t439 t440 t441 _ ?side1 A22.out).mono ?_); (case side1 => exact Kd.V_mk HC1.out (Kd.F_below (Kd.C_F (Kd.heap_slice 28 k28_heap) HR1.out) (by repeat (first | (with_reducible first | exact HB.out | apply below_alloc | apply pw_below_drewN | apply below_drew1 | refine below_set ?_ GE430.out) | exact HB.out)))); rintro e w31 ⟨v442, rfl, ho0, hb⟩; refine ⟨_, rfl, ?_⟩; have n0_ := Aside0.mk (Kd.V_lower (Kd.V_mono (ok' := fun k_ => k_ ≠ gb430) ho0 (fun k_ hk_ => Or.elim hk_ (fun hs_ => fun e_ => Nat.not_le.2 hs_ (by rw [e_]; exact GW430.out)) (fun hn_ => (Kd.freshB (g := gb430) (o := .cells #[.int .i64 a0_0, .int .i64 a0_1, .int .i64 a0_2, .int .i64 a0_3, .int .i64 a0_4, .int .i64 a0_5, .int .i64 a0_6, .int .i64 a0_7, .int .i64 a0_8, .int .i64 a0_9, .slice A0_10 l0_10.length c0_10] 42 (0, 0)) (by (with_reducible repeat (first | refine blk_drewN ?_ _ | refine blk_drew ?_ | refine blk_alloc ?_ _)); exact BK430.out) k_ hn_)))) (below_size (by repeat (first | (with_reducible first | exact HB.out | apply below_alloc | apply pw_below_drewN | apply below_drew1 | refine below_set ?_ GE430.out) | exact HB.out)))); have n1_ := Aside0.mk (blk_below (g := gb430) (o := .cells #[.int .i64 a0_0, .int .i64 a0_1, .int .i64 a0_2, .int .i64 a0_3, .int .i64 a0_4, .int .i64 a0_5, .int .i64 a0_6, .int .i64 a0_7, .int .i64 a0_8, .int .i64 a0_9, .slice A0_10 l0_10.length c0_10] 42 (0, 0)) (by (with_reducible repeat (first | refine blk_drewN ?_ _ | refine blk_drew ?_ | refine blk_alloc ?_ _)); exact BK430.out) hb); have n2_ := Aside0.mk (below_step (by repeat (first | (with_reducible first | exact HB.out | apply below_alloc | apply pw_below_drewN | apply below_drew1 | refine below_set ?_ GE430.out) | exact HB.out)) hb); clear BK430; clear HB; have HO443 := n0_; have BK430 := n1_; have HB := n2_; clear n0_ n1_ n2_; (try clear hb); (try clear hb2); (try clear hk); (try clear hi); (try clear ho0)))
           go_roundg k2
           case measure => have := HK1.out; have := HK2.out; omega
           case rel => exact ⟨(x11_2), (wrap64 (x12_2 + 1)), (by first | rfl | (simp; done) | (simp [*]; done)), (by first | rfl | (simp; done) | (simp [*]; done)), H', ⟨by have := HK1.out; have := HK2.out; omega⟩, ⟨by (with_reducible repeat (first | refine blk_drewN ?_ _ | refine blk_drew ?_ | refine blk_alloc ?_ _)); exact BK430.out⟩, ⟨by repeat (first | (with_reducible first | exact HB.out | apply below_alloc | apply pw_below_drewN | apply below_drew1 | refine below_set ?_ GE430.out) | exact HB.out)⟩⟩
         ·
          rw [if_neg c21] at H
          exact absurd H (by simp)
        ·
         rw [if_neg c20] at H
         have c20b0 : decide (x12_2 < (l1.length : Int)) = false := decide_eq_false c20
         clear c20
         have H' := Aside0.mk H
         clear H
         go_wp2
         go_loopg [13] k2 (fun kq v13 w' => ∃ (x13_3 : Int), v13 = .int .i64 x13_3 ∧ Aside0 (bellwetherref37_Regular.l2 kq l1 l2 x13_3 a0_0 a0_1 a0_2 a0_3 a0_4 a0_5 a0_6 a0_7 a0_8 a0_9 l0_10 = some r) ∧ Aside0 (kq ≤ k2) ∧ Aside0 (w'.heap[gb430]? = some (.cells #[.int .i64 a0_0, .int .i64 a0_1, .int .i64 a0_2, .int .i64 a0_3, .int .i64 a0_4, .int .i64 a0_5, .int .i64 a0_6, .int .i64 a0_7, .int .i64 a0_8, .int .i64 a0_9, (.slice A0_10 l0_10.length c0_10)] 42 (0, 0))) ∧ Aside0 (Below w.heap.size w w'))
         case atStart => exact ⟨(ji11), (by first | rfl | (simp; done) | (simp only [← hji11] <;> (first | rfl | simp)) | (simp [*]; done)), H', ⟨Nat.le_refl _⟩, ⟨by (with_reducible repeat (first | refine blk_drewN ?_ _ | refine blk_drew ?_ | refine blk_alloc ?_ _)); exact BK430.out⟩, ⟨by repeat (first | (with_reducible first | exact HB.out | apply below_alloc | apply pw_below_drewN | apply below_drew1 | refine below_set ?_ GE430.out) | exact HB.out)⟩⟩
         case round =>
          clear H'
          try clear c1
          try clear c2
          try clear p2
          try clear c3
          try clear p4
          try clear q4
          try clear hx4
          try clear qi4
          try clear c6
          try clear c6b0
          try clear c6b1
          try clear p6
          try clear c7
          try clear c7b0
          try clear c7b1
          try clear c7b2
          try clear c13
          try clear c15
          try clear c15b0
          try clear c17
          try clear c20
          try clear c20b0
          try clear c21
          try clear c21b0
          try clear c21b1
          try clear c23
          try clear c24
          try clear c24b0
          try clear c25
          try clear c25b0
          try clear c27
          try clear c29
          try clear hcz13_0
          try clear hcz13_1
          try clear hcz13_10
          try clear hcz13_2
          try clear hcz13_3
          try clear hcz13_4
          try clear hcz13_5
          try clear hcz13_6
          try clear hcz13_7
          try clear hcz13_8
          try clear hcz13_9
          try clear hcz27_0
          try clear hcz27_1
          try clear hcz27_10
          try clear hcz27_2
          try clear hcz27_3
          try clear hcz27_4
          try clear hcz27_5
          try clear hcz27_6
          try clear hcz27_7
          try clear hcz27_8
          try clear hcz27_9
          try clear hcz29_0
          try clear hcz29_1
          try clear hcz29_10
          try clear hcz29_2
          try clear hcz29_3
          try clear hcz29_4
          try clear hcz29_5
          try clear hcz29_6
          try clear hcz29_7
          try clear hcz29_8
          try clear hcz29_9
          try clear hcz9_0
          try clear hcz9_1
          try clear hcz9_10
          try clear hcz9_2
          try clear hcz9_3
          try clear hcz9_4
          try clear hcz9_5
          try clear hcz9_6
          try clear hcz9_7
          try clear hcz9_8
          try clear hcz9_9
          try clear hfz13_0
          try clear hfz13_1
          try clear hfz13_10
          try clear hfz13_2
          try clear hfz13_3
          try clear hfz13_4
          try clear hfz13_5
          try clear hfz13_6
          try clear hfz13_7
          try clear hfz13_8
          try clear hfz13_9
          try clear hfz27_0
          try clear hfz27_1
          try clear hfz27_10
          try clear hfz27_2
          try clear hfz27_3
          try clear hfz27_4
          try clear hfz27_5
          try clear hfz27_6
          try clear hfz27_7
          try clear hfz27_8
          try clear hfz27_9
          try clear hfz29_0
          try clear hfz29_1
          try clear hfz29_10
          try clear hfz29_2
          try clear hfz29_3
          try clear hfz29_4
          try clear hfz29_5
          try clear hfz29_6
          try clear hfz29_7
          try clear hfz29_8
          try clear hfz29_9
          try clear hfz9_0
          try clear hfz9_1
          try clear hfz9_10
          try clear hfz9_2
          try clear hfz9_3
          try clear hfz9_4
          try clear hfz9_5
          try clear hfz9_6
          try clear hfz9_7
          try clear hfz9_8
          try clear hfz9_9
          try clear hx434_0
          try clear p2
          try clear p434
          try clear p6
          try clear q434
          obtain ⟨x13_3, rfl, HA, HK3, BK430, HB⟩ := hrel
          cases gk with
          | zero => exact absurd HA.out (by simp [bellwetherref37_Regular.l2])
          | succ k3 =>
           have H := HA.out
           clear HA
           simp only [bellwetherref37_Regular.l2] at H
           by_cases c32 : (wrap64 ((l1.length : Int) - x13_3)) ≥ a0_3
           ·
            rw [if_pos c32] at H
            have c32b0 : decide (a0_3 ≤ (wrap64 ((l1.length : Int) - x13_3))) = true := decide_eq_true c32
            clear c32
            have H' := Aside0.mk H
            clear H
            have hcz33_0 : wr.cell? ⟨gb430, 0, none⟩ = some (.int .i64 a0_0) := (blk_cell BK430.out 0).trans rfl
            have hcz33_1 : wr.cell? ⟨gb430, 1, none⟩ = some (.int .i64 a0_1) := (blk_cell BK430.out 1).trans rfl
            have hcz33_2 : wr.cell? ⟨gb430, 2, none⟩ = some (.int .i64 a0_2) := (blk_cell BK430.out 2).trans rfl
            have hcz33_3 : wr.cell? ⟨gb430, 3, none⟩ = some (.int .i64 a0_3) := (blk_cell BK430.out 3).trans rfl
            have hcz33_4 : wr.cell? ⟨gb430, 4, none⟩ = some (.int .i64 a0_4) := (blk_cell BK430.out 4).trans rfl
            have hcz33_5 : wr.cell? ⟨gb430, 5, none⟩ = some (.int .i64 a0_5) := (blk_cell BK430.out 5).trans rfl
            have hcz33_6 : wr.cell? ⟨gb430, 6, none⟩ = some (.int .i64 a0_6) := (blk_cell BK430.out 6).trans rfl
            have hcz33_7 : wr.cell? ⟨gb430, 7, none⟩ = some (.int .i64 a0_7) := (blk_cell BK430.out 7).trans rfl
            have hcz33_8 : wr.cell? ⟨gb430, 8, none⟩ = some (.int .i64 a0_8) := (blk_cell BK430.out 8).trans rfl
            have hcz33_9 : wr.cell? ⟨gb430, 9, none⟩ = some (.int .i64 a0_9) := (blk_cell BK430.out 9).trans rfl
            have hcz33_10 : wr.cell? ⟨gb430, 10, none⟩ = some (.slice A0_10 l0_10.length c0_10) := (blk_cell BK430.out 10).trans rfl
            have hfz33_0 := blk_frozen BK430.out 0
            have hfz33_1 := blk_frozen BK430.out 1
            have hfz33_2 := blk_frozen BK430.out 2
            have hfz33_3 := blk_frozen BK430.out 3
            have hfz33_4 := blk_frozen BK430.out 4
            have hfz33_5 := blk_frozen BK430.out 5
            have hfz33_6 := blk_frozen BK430.out 6
            have hfz33_7 := blk_frozen BK430.out 7
            have hfz33_8 := blk_frozen BK430.out 8
            have hfz33_9 := blk_frozen BK430.out 9
            have hfz33_10 := blk_frozen BK430.out 10
            go_wp2
            go_loopg [14, 15] k3 (fun kq v14 v15 w' => ∃ (x14_4 : Bool) (x15_4 : Int), v14 = .bool x14_4 ∧ v15 = .int .i64 x15_4 ∧ Aside0 (bellwetherref37_Regular.l3 kq l1 l2 x13_3 x14_4 x15_4 a0_0 a0_1 a0_2 a0_3 a0_4 a0_5 a0_6 a0_7 a0_8 a0_9 l0_10 = some r) ∧ Aside0 (kq ≤ k3) ∧ Aside0 (w'.heap[gb430]? = some (.cells #[.int .i64 a0_0, .int .i64 a0_1, .int .i64 a0_2, .int .i64 a0_3, .int .i64 a0_4, .int .i64 a0_5, .int .i64 a0_6, .int .i64 a0_7, .int .i64 a0_8, .int .i64 a0_9, (.slice A0_10 l0_10.length c0_10)] 42 (0, 0))) ∧ Aside0 (Below w.heap.size w w'))
            case atStart => exact ⟨(false), (x13_3), (by first | rfl | (simp; done) | (simp [*]; done)), (by first | rfl | (simp; done) | (simp [*]; done)), H', ⟨Nat.le_refl _⟩, ⟨by (with_reducible repeat (first | refine blk_drewN ?_ _ | refine blk_drew ?_ | refine blk_alloc ?_ _)); exact BK430.out⟩, ⟨by repeat (first | (with_reducible first | exact HB.out | apply below_alloc | apply pw_below_drewN | apply below_drew1 | refine below_set ?_ GE430.out) | exact HB.out)⟩⟩
            case round =>
             clear H'
             try clear c1
             try clear c2
             try clear p2
             try clear c3
             try clear p4
             try clear q4
             try clear hx4
             try clear qi4
             try clear c6
             try clear c6b0
             try clear c6b1
             try clear p6
             try clear c7
             try clear c7b0
             try clear c7b1
             try clear c7b2
             try clear c13
             try clear c15
             try clear c15b0
             try clear c17
             try clear c20
             try clear c20b0
             try clear c21
             try clear c21b0
             try clear c21b1
             try clear c23
             try clear c24
             try clear c24b0
             try clear c25
             try clear c25b0
             try clear c27
             try clear c29
             try clear c32
             try clear c32b0
             try clear hcz13_0
             try clear hcz13_1
             try clear hcz13_10
             try clear hcz13_2
             try clear hcz13_3
             try clear hcz13_4
             try clear hcz13_5
             try clear hcz13_6
             try clear hcz13_7
             try clear hcz13_8
             try clear hcz13_9
             try clear hcz27_0
             try clear hcz27_1
             try clear hcz27_10
             try clear hcz27_2
             try clear hcz27_3
             try clear hcz27_4
             try clear hcz27_5
             try clear hcz27_6
             try clear hcz27_7
             try clear hcz27_8
             try clear hcz27_9
             try clear hcz29_0
             try clear hcz29_1
             try clear hcz29_10
             try clear hcz29_2
             try clear hcz29_3
             try clear hcz29_4
             try clear hcz29_5
             try clear hcz29_6
             try clear hcz29_7
             try clear hcz29_8
             try clear hcz29_9
             try clear hcz33_0
             try clear hcz33_1
             try clear hcz33_10
             try clear hcz33_2
             try clear hcz33_3
             try clear hcz33_4
             try clear hcz33_5
             try clear hcz33_6
             try clear hcz33_7
             try clear hcz33_8
             try clear hcz33_9
             try clear hcz9_0
             try clear hcz9_1
             try clear hcz9_10
             try clear hcz9_2
             try clear hcz9_3
             try clear hcz9_4
             try clear hcz9_5
             try clear hcz9_6
             try clear hcz9_7
             try clear hcz9_8
             try clear hcz9_9
             try clear hfz13_0
             try clear hfz13_1
             try clear hfz13_10
             try clear hfz13_2
             try clear hfz13_3
             try clear hfz13_4
             try clear hfz13_5
             try clear hfz13_6
             try clear hfz13_7
             try clear hfz13_8
             try clear hfz13_9
             try clear hfz27_0
             try clear hfz27_1
             try clear hfz27_10
             try clear hfz27_2
             try clear hfz27_3
             try clear hfz27_4
             try clear hfz27_5
             try clear hfz27_6
             try clear hfz27_7
             try clear hfz27_8
             try clear hfz27_9
             try clear hfz29_0
             try clear hfz29_1
             try clear hfz29_10
             try clear hfz29_2
             try clear hfz29_3
             try clear hfz29_4
             try clear hfz29_5
             try clear hfz29_6
             try clear hfz29_7
             try clear hfz29_8
             try clear hfz29_9
             try clear hfz33_0
             try clear hfz33_1
             try clear hfz33_10
             try clear hfz33_2
             try clear hfz33_3
             try clear hfz33_4
             try clear hfz33_5
             try clear hfz33_6
             try clear hfz33_7
             try clear hfz33_8
             try clear hfz33_9
             try clear hfz9_0
             try clear hfz9_1
             try clear hfz9_10
             try clear hfz9_2
             try clear hfz9_3
             try clear hfz9_4
             try clear hfz9_5
             try clear hfz9_6
             try clear hfz9_7
             try clear hfz9_8
             try clear hfz9_9
             try clear hx434_0
             try clear p2
             try clear p4
             try clear p434
             try clear p6
             try clear q4
             try clear q434
             obtain ⟨x14_4, x15_4, rfl, rfl, HA, HK4, BK430, HB⟩ := hrel
             cases gk with
             | zero => exact absurd HA.out (by simp [bellwetherref37_Regular.l3])
             | succ k4 =>
              have H := HA.out
              clear HA
              simp only [bellwetherref37_Regular.l3] at H
              by_cases c34 : x15_4 < (wrap64 (x13_3 + a0_3))
              ·
               rw [if_pos c34] at H
               have c34b0 : decide (x15_4 < (wrap64 (x13_3 + a0_3))) = true := decide_eq_true c34
               clear c34
               by_cases c35 : x14_4 = true
               ·
                subst c35
                have H1 : (bellwetherref37_Regular.l3 k4 l1 l2 x13_3 true (wrap64 (x15_4 + 1)) a0_0 a0_1 a0_2 a0_3 a0_4 a0_5 a0_6 a0_7 a0_8 a0_9 l0_10) = some r := by rw [if_pos rfl] at H; exact H
                clear H
                have H := H1
                clear H1
                have H' := Aside0.mk H
                clear H
                have hcz36_0 : wr.cell? ⟨gb430, 0, none⟩ = some (.int .i64 a0_0) := (blk_cell BK430.out 0).trans rfl
                have hcz36_1 : wr.cell? ⟨gb430, 1, none⟩ = some (.int .i64 a0_1) := (blk_cell BK430.out 1).trans rfl
                have hcz36_2 : wr.cell? ⟨gb430, 2, none⟩ = some (.int .i64 a0_2) := (blk_cell BK430.out 2).trans rfl
                have hcz36_3 : wr.cell? ⟨gb430, 3, none⟩ = some (.int .i64 a0_3) := (blk_cell BK430.out 3).trans rfl
                have hcz36_4 : wr.cell? ⟨gb430, 4, none⟩ = some (.int .i64 a0_4) := (blk_cell BK430.out 4).trans rfl
                have hcz36_5 : wr.cell? ⟨gb430, 5, none⟩ = some (.int .i64 a0_5) := (blk_cell BK430.out 5).trans rfl
                have hcz36_6 : wr.cell? ⟨gb430, 6, none⟩ = some (.int .i64 a0_6) := (blk_cell BK430.out 6).trans rfl
                have hcz36_7 : wr.cell? ⟨gb430, 7, none⟩ = some (.int .i64 a0_7) := (blk_cell BK430.out 7).trans rfl
                have hcz36_8 : wr.cell? ⟨gb430, 8, none⟩ = some (.int .i64 a0_8) := (blk_cell BK430.out 8).trans rfl
                have hcz36_9 : wr.cell? ⟨gb430, 9, none⟩ = some (.int .i64 a0_9) := (blk_cell BK430.out 9).trans rfl
                have hcz36_10 : wr.cell? ⟨gb430, 10, none⟩ = some (.slice A0_10 l0_10.length c0_10) := (blk_cell BK430.out 10).trans rfl
                have hfz36_0 := blk_frozen BK430.out 0
                have hfz36_1 := blk_frozen BK430.out 1
                have hfz36_2 := blk_frozen BK430.out 2
                have hfz36_3 := blk_frozen BK430.out 3
                have hfz36_4 := blk_frozen BK430.out 4
                have hfz36_5 := blk_frozen BK430.out 5
                have hfz36_6 := blk_frozen BK430.out 6
                have hfz36_7 := blk_frozen BK430.out 7
                have hfz36_8 := blk_frozen BK430.out 8
                have hfz36_9 := blk_frozen BK430.out 9
                have hfz36_10 := blk_frozen BK430.out 10
                go_wp2
                go_roundg k4
                case measure => have := HK1.out; have := HK2.out; have := HK3.out; have := HK4.out; omega
                case rel => exact ⟨(true), (wrap64 (x15_4 + 1)), (by first | rfl | (simp; done) | (simp [*]; done)), (by first | rfl | (simp; done) | (simp [*]; done)), H', ⟨by have := HK1.out; have := HK2.out; have := HK3.out; have := HK4.out; omega⟩, ⟨by (with_reducible repeat (first | refine blk_drewN ?_ _ | refine blk_drew ?_ | refine blk_alloc ?_ _)); exact BK430.out⟩, ⟨by repeat (first | (with_reducible first | exact HB.out | apply below_alloc | apply pw_below_drewN | apply below_drew1 | refine below_set ?_ GE430.out) | exact HB.out)⟩⟩
               ·
                replace c35 := Bool.eq_false_iff.mpr c35
                subst c35
                have H1 : (if 0 < (l2.length : Int) then ((bellwetherref36_At.f l1 x15_4 (rd l2 0)).bind fun bt445 => (bellwetherref37_Regular.l3 k4 l1 l2 x13_3 bt445.1 (wrap64 (x15_4 + 1)) a0_0 a0_1 a0_2 a0_3 a0_4 a0_5 a0_6 a0_7 a0_8 a0_9 l0_10)) else (none)) = some r := by rw [if_neg (show ¬ (false = true) by decide)] at H; exact H
                clear H
                have H := H1
                clear H1
                by_cases c37 : 0 < (l2.length : Int)
                ·
                 rw [if_pos c37] at H
                 have c37b0 : decide (0 < (l2.length : Int)) = true := decide_eq_true c37
                 have c37b1 : decide (0 < l2.length) = true := decide_eq_true (by omega)
                 clear c37
                 replace H := Option.bind_eq_some_iff.mp H
                 obtain ⟨⟨t445, t446, t447, t448, t449, t450, t451⟩, A380, H⟩ := H
                 replace H : (bellwetherref37_Regular.l3 k4 l1 l2 x13_3 t445 (wrap64 (x15_4 + 1)) a0_0 a0_1 a0_2 a0_3 a0_4 a0_5 a0_6 a0_7 a0_8 a0_9 l0_10) = some r := H
                 have A38 := Aside0.mk A380
                 clear A380
                 have H' := Aside0.mk H
                 clear H
                 have hcz39_0 : wr.cell? ⟨gb430, 0, none⟩ = some (.int .i64 a0_0) := (blk_cell BK430.out 0).trans rfl
                 have hcz39_1 : wr.cell? ⟨gb430, 1, none⟩ = some (.int .i64 a0_1) := (blk_cell BK430.out 1).trans rfl
                 have hcz39_2 : wr.cell? ⟨gb430, 2, none⟩ = some (.int .i64 a0_2) := (blk_cell BK430.out 2).trans rfl
                 have hcz39_3 : wr.cell? ⟨gb430, 3, none⟩ = some (.int .i64 a0_3) := (blk_cell BK430.out 3).trans rfl
                 have hcz39_4 : wr.cell? ⟨gb430, 4, none⟩ = some (.int .i64 a0_4) := (blk_cell BK430.out 4).trans rfl
                 have hcz39_5 : wr.cell? ⟨gb430, 5, none⟩ = some (.int .i64 a0_5) := (blk_cell BK430.out 5).trans rfl
                 have hcz39_6 : wr.cell? ⟨gb430, 6, none⟩ = some (.int .i64 a0_6) := (blk_cell BK430.out 6).trans rfl
                 have hcz39_7 : wr.cell? ⟨gb430, 7, none⟩ = some (.int .i64 a0_7) := (blk_cell BK430.out 7).trans rfl
                 have hcz39_8 : wr.cell? ⟨gb430, 8, none⟩ = some (.int .i64 a0_8) := (blk_cell BK430.out 8).trans rfl
                 have hcz39_9 : wr.cell? ⟨gb430, 9, none⟩ = some (.int .i64 a0_9) := (blk_cell BK430.out 9).trans rfl
                 have hcz39_10 : wr.cell? ⟨gb430, 10, none⟩ = some (.slice A0_10 l0_10.length c0_10) := (blk_cell BK430.out 10).trans rfl
                 have hfz39_0 := blk_frozen BK430.out 0
                 have hfz39_1 := blk_frozen BK430.out 1
                 have hfz39_2 := blk_frozen BK430.out 2
                 have hfz39_3 := blk_frozen BK430.out 3
                 have hfz39_4 := blk_frozen BK430.out 4
                 have hfz39_5 := blk_frozen BK430.out 5
                 have hfz39_6 := blk_frozen BK430.out 6
                 have hfz39_7 := blk_frozen BK430.out 7
                 have hfz39_8 := blk_frozen BK430.out 8
                 have hfz39_9 := blk_frozen BK430.out 9
                 have hfz39_10 := blk_frozen BK430.out 10
                 have p444 : 0 ≤ (0 : Int) := (by omega)
                 have q444 : 0 < (l2.length : Int) := of_decide_eq_true (by first | (with_reducible assumption) | assumption)
                 obtain ⟨ad444, e444, hx444_0⟩ := Kd.at_int HR2.out 0 p444 q444
                 cases e444
                 have qi444 : (0 < l2.length) = True := eq_true (by omega)
                 (try rw [show ((0 : Int)).toNat = 0 from rfl] at hx444_0)
                 (try rw [Addr.add_zero'] at hx444_0)
                 replace hx444_0 := (HB.out.cell (World.block_lt_of_cell? w _ hx444_0)).trans hx444_0
                 replace p444 := eq_true p444
                 replace q444 := eq_true q444
                 go_wp2_with (first | (go_at_call 13; (with_reducible refine (bellwetherref36_At.calls (fun k_ => k_ < w.heap.size) _ _ l1 x15_4 (rd l2 0) t445 t446 t447 t448 t449 t450 t451 _ ?side1 A38.out).mono ?_); (case side1 => exact Kd.V_mk HC1.out (Kd.F_below (Kd.C_F (Kd.heap_slice 28 k28_heap) HR1.out) (by repeat (first | (with_reducible first | exact HB.out | apply below_alloc | apply pw_below_drewN | apply below_drew1 | refine below_set ?_ GE430.out) | exact HB.out)))); rintro e w40 ⟨v452, rfl, ho0, hb⟩; have n0_ := Aside0.mk (Kd.V_lower (Kd.V_mono (ok' := fun k_ => k_ ≠ gb430) ho0 (fun k_ hk_ => Or.elim hk_ (fun hs_ => fun e_ => Nat.not_le.2 hs_ (by rw [e_]; exact GW430.out)) (fun hn_ => (Kd.freshB (g := gb430) (o := .cells #[.int .i64 a0_0, .int .i64 a0_1, .int .i64 a0_2, .int .i64 a0_3, .int .i64 a0_4, .int .i64 a0_5, .int .i64 a0_6, .int .i64 a0_7, .int .i64 a0_8, .int .i64 a0_9, .slice A0_10 l0_10.length c0_10] 42 (0, 0)) (by (with_reducible repeat (first | refine blk_drewN ?_ _ | refine blk_drew ?_ | refine blk_alloc ?_ _)); exact BK430.out) k_ hn_)))) (below_size (by repeat (first | (with_reducible first | exact HB.out | apply below_alloc | apply pw_below_drewN | apply below_drew1 | refine below_set ?_ GE430.out) | exact HB.out)))); have n1_ := Aside0.mk (blk_below (g := gb430) (o := .cells #[.int .i64 a0_0, .int .i64 a0_1, .int .i64 a0_2, .int .i64 a0_3, .int .i64 a0_4, .int .i64 a0_5, .int .i64 a0_6, .int .i64 a0_7, .int .i64 a0_8, .int .i64 a0_9, .slice A0_10 l0_10.length c0_10] 42 (0, 0)) (by (with_reducible repeat (first | refine blk_drewN ?_ _ | refine blk_drew ?_ | refine blk_alloc ?_ _)); exact BK430.out) hb); have n2_ := Aside0.mk (below_step (by repeat (first | (with_reducible first | exact HB.out | apply below_alloc | apply pw_below_drewN | apply below_drew1 | refine below_set ?_ GE430.out) | exact HB.out)) hb); clear BK430; clear HB; have HO453 := n0_; have BK430 := n1_; have HB := n2_; clear n0_ n1_ n2_; (try clear hb); (try clear hb2); (try clear hk); (try clear hi); (try clear ho0)))
                 go_roundg k4
                 case measure => have := HK1.out; have := HK2.out; have := HK3.out; have := HK4.out; omega
                 case rel => exact ⟨(t445), (wrap64 (x15_4 + 1)), (by first | rfl | (simp; done) | (simp [*]; done)), (by first | rfl | (simp; done) | (simp [*]; done)), H', ⟨by have := HK1.out; have := HK2.out; have := HK3.out; have := HK4.out; omega⟩, ⟨by (with_reducible repeat (first | refine blk_drewN ?_ _ | refine blk_drew ?_ | refine blk_alloc ?_ _)); exact BK430.out⟩, ⟨by repeat (first | (with_reducible first | exact HB.out | apply below_alloc | apply pw_below_drewN | apply below_drew1 | refine below_set ?_ GE430.out) | exact HB.out)⟩⟩
                ·
                 rw [if_neg c37] at H
                 exact absurd H (by simp)
              ·
               rw [if_neg c34] at H
               have c34b0 : decide (x15_4 < (wrap64 (x13_3 + a0_3))) = false := decide_eq_false c34
               clear c34
               by_cases c41 : x14_4 = true
               ·
                subst c41
                have H1 : (bellwetherref37_Regular.l2 k4 l1 l2 (wrap64 (x13_3 + 1)) a0_0 a0_1 a0_2 a0_3 a0_4 a0_5 a0_6 a0_7 a0_8 a0_9 l0_10) = some r := by rw [if_pos rfl] at H; exact H
                clear H
                have H := H1
                clear H1
                have H' := Aside0.mk H
                clear H
                have hcz42_0 : wr.cell? ⟨gb430, 0, none⟩ = some (.int .i64 a0_0) := (blk_cell BK430.out 0).trans rfl
                have hcz42_1 : wr.cell? ⟨gb430, 1, none⟩ = some (.int .i64 a0_1) := (blk_cell BK430.out 1).trans rfl
                have hcz42_2 : wr.cell? ⟨gb430, 2, none⟩ = some (.int .i64 a0_2) := (blk_cell BK430.out 2).trans rfl
                have hcz42_3 : wr.cell? ⟨gb430, 3, none⟩ = some (.int .i64 a0_3) := (blk_cell BK430.out 3).trans rfl
                have hcz42_4 : wr.cell? ⟨gb430, 4, none⟩ = some (.int .i64 a0_4) := (blk_cell BK430.out 4).trans rfl
                have hcz42_5 : wr.cell? ⟨gb430, 5, none⟩ = some (.int .i64 a0_5) := (blk_cell BK430.out 5).trans rfl
                have hcz42_6 : wr.cell? ⟨gb430, 6, none⟩ = some (.int .i64 a0_6) := (blk_cell BK430.out 6).trans rfl
                have hcz42_7 : wr.cell? ⟨gb430, 7, none⟩ = some (.int .i64 a0_7) := (blk_cell BK430.out 7).trans rfl
                have hcz42_8 : wr.cell? ⟨gb430, 8, none⟩ = some (.int .i64 a0_8) := (blk_cell BK430.out 8).trans rfl
                have hcz42_9 : wr.cell? ⟨gb430, 9, none⟩ = some (.int .i64 a0_9) := (blk_cell BK430.out 9).trans rfl
                have hcz42_10 : wr.cell? ⟨gb430, 10, none⟩ = some (.slice A0_10 l0_10.length c0_10) := (blk_cell BK430.out 10).trans rfl
                have hfz42_0 := blk_frozen BK430.out 0
                have hfz42_1 := blk_frozen BK430.out 1
                have hfz42_2 := blk_frozen BK430.out 2
                have hfz42_3 := blk_frozen BK430.out 3
                have hfz42_4 := blk_frozen BK430.out 4
                have hfz42_5 := blk_frozen BK430.out 5
                have hfz42_6 := blk_frozen BK430.out 6
                have hfz42_7 := blk_frozen BK430.out 7
                have hfz42_8 := blk_frozen BK430.out 8
                have hfz42_9 := blk_frozen BK430.out 9
                have hfz42_10 := blk_frozen BK430.out 10
                go_wp2
                go_roundg k4
                case measure => have := HK1.out; have := HK2.out; have := HK3.out; have := HK4.out; omega
                case rel => exact ⟨(wrap64 (x13_3 + 1)), (by first | rfl | (simp; done) | (simp [*]; done)), H', ⟨by have := HK1.out; have := HK2.out; have := HK3.out; have := HK4.out; omega⟩, ⟨by (with_reducible repeat (first | refine blk_drewN ?_ _ | refine blk_drew ?_ | refine blk_alloc ?_ _)); exact BK430.out⟩, ⟨by repeat (first | (with_reducible first | exact HB.out | apply below_alloc | apply pw_below_drewN | apply below_drew1 | refine below_set ?_ GE430.out) | exact HB.out)⟩⟩
               ·
                replace c41 := Bool.eq_false_iff.mpr c41
                subst c41
                have H1 : (some 10) = some r := by rw [if_neg (show ¬ (false = true) by decide)] at H; exact H
                clear H
                have H := H1
                clear H1
                obtain rfl := Option.some.inj H
                have hcz43_0 : wr.cell? ⟨gb430, 0, none⟩ = some (.int .i64 a0_0) := (blk_cell BK430.out 0).trans rfl
                have hcz43_1 : wr.cell? ⟨gb430, 1, none⟩ = some (.int .i64 a0_1) := (blk_cell BK430.out 1).trans rfl
                have hcz43_2 : wr.cell? ⟨gb430, 2, none⟩ = some (.int .i64 a0_2) := (blk_cell BK430.out 2).trans rfl
                have hcz43_3 : wr.cell? ⟨gb430, 3, none⟩ = some (.int .i64 a0_3) := (blk_cell BK430.out 3).trans rfl
                have hcz43_4 : wr.cell? ⟨gb430, 4, none⟩ = some (.int .i64 a0_4) := (blk_cell BK430.out 4).trans rfl
                have hcz43_5 : wr.cell? ⟨gb430, 5, none⟩ = some (.int .i64 a0_5) := (blk_cell BK430.out 5).trans rfl
                have hcz43_6 : wr.cell? ⟨gb430, 6, none⟩ = some (.int .i64 a0_6) := (blk_cell BK430.out 6).trans rfl
                have hcz43_7 : wr.cell? ⟨gb430, 7, none⟩ = some (.int .i64 a0_7) := (blk_cell BK430.out 7).trans rfl
                have hcz43_8 : wr.cell? ⟨gb430, 8, none⟩ = some (.int .i64 a0_8) := (blk_cell BK430.out 8).trans rfl
                have hcz43_9 : wr.cell? ⟨gb430, 9, none⟩ = some (.int .i64 a0_9) := (blk_cell BK430.out 9).trans rfl
                have hcz43_10 : wr.cell? ⟨gb430, 10, none⟩ = some (.slice A0_10 l0_10.length c0_10) := (blk_cell BK430.out 10).trans rfl
                have hfz43_0 := blk_frozen BK430.out 0
                have hfz43_1 := blk_frozen BK430.out 1
                have hfz43_2 := blk_frozen BK430.out 2
                have hfz43_3 := blk_frozen BK430.out 3
                have hfz43_4 := blk_frozen BK430.out 4
                have hfz43_5 := blk_frozen BK430.out 5
                have hfz43_6 := blk_frozen BK430.out 6
                have hfz43_7 := blk_frozen BK430.out 7
                have hfz43_8 := blk_frozen BK430.out 8
                have hfz43_9 := blk_frozen BK430.out 9
                have hfz43_10 := blk_frozen BK430.out 10
                go_wp2
                go_ret
                exact ⟨by first | rfl | (simp [errW_none, errW_some] <;> rfl) | (simp only [← hji11]; first | rfl | (simp [errW_none, errW_some] <;> rfl)) | (simp [*, errW_none, errW_some] <;> rfl), by repeat (first | (with_reducible first | exact HB.out | apply below_alloc | apply pw_below_drewN | apply below_drew1 | refine below_set ?_ GE430.out) | exact HB.out)⟩
           ·
            rw [if_neg c32] at H
            have c32b0 : decide (a0_3 ≤ (wrap64 ((l1.length : Int) - x13_3))) = false := decide_eq_false c32
            clear c32
            obtain rfl := Option.some.inj H
            have hcz44_0 : wr.cell? ⟨gb430, 0, none⟩ = some (.int .i64 a0_0) := (blk_cell BK430.out 0).trans rfl
            have hcz44_1 : wr.cell? ⟨gb430, 1, none⟩ = some (.int .i64 a0_1) := (blk_cell BK430.out 1).trans rfl
            have hcz44_2 : wr.cell? ⟨gb430, 2, none⟩ = some (.int .i64 a0_2) := (blk_cell BK430.out 2).trans rfl
            have hcz44_3 : wr.cell? ⟨gb430, 3, none⟩ = some (.int .i64 a0_3) := (blk_cell BK430.out 3).trans rfl
            have hcz44_4 : wr.cell? ⟨gb430, 4, none⟩ = some (.int .i64 a0_4) := (blk_cell BK430.out 4).trans rfl
            have hcz44_5 : wr.cell? ⟨gb430, 5, none⟩ = some (.int .i64 a0_5) := (blk_cell BK430.out 5).trans rfl
            have hcz44_6 : wr.cell? ⟨gb430, 6, none⟩ = some (.int .i64 a0_6) := (blk_cell BK430.out 6).trans rfl
            have hcz44_7 : wr.cell? ⟨gb430, 7, none⟩ = some (.int .i64 a0_7) := (blk_cell BK430.out 7).trans rfl
            have hcz44_8 : wr.cell? ⟨gb430, 8, none⟩ = some (.int .i64 a0_8) := (blk_cell BK430.out 8).trans rfl
            have hcz44_9 : wr.cell? ⟨gb430, 9, none⟩ = some (.int .i64 a0_9) := (blk_cell BK430.out 9).trans rfl
            have hcz44_10 : wr.cell? ⟨gb430, 10, none⟩ = some (.slice A0_10 l0_10.length c0_10) := (blk_cell BK430.out 10).trans rfl
            have hfz44_0 := blk_frozen BK430.out 0
            have hfz44_1 := blk_frozen BK430.out 1
            have hfz44_2 := blk_frozen BK430.out 2
            have hfz44_3 := blk_frozen BK430.out 3
            have hfz44_4 := blk_frozen BK430.out 4
            have hfz44_5 := blk_frozen BK430.out 5
            have hfz44_6 := blk_frozen BK430.out 6
            have hfz44_7 := blk_frozen BK430.out 7
            have hfz44_8 := blk_frozen BK430.out 8
            have hfz44_9 := blk_frozen BK430.out 9
            have hfz44_10 := blk_frozen BK430.out 10
            go_wp2
            go_ret
            exact ⟨by first | rfl | (simp [errW_none, errW_some] <;> rfl) | (simp only [← hji11]; first | rfl | (simp [errW_none, errW_some] <;> rfl)) | (simp [*, errW_none, errW_some] <;> rfl), by repeat (first | (with_reducible first | exact HB.out | apply below_alloc | apply pw_below_drewN | apply below_drew1 | refine below_set ?_ GE430.out) | exact HB.out)⟩
 ·
  rw [if_neg c6] at H
  have c6b0 : (t431 == 0) = false := beq_eq_false_iff_ne.mpr c6
  have c6b1 : (t431 != 0) = true := bne_iff_ne.mpr c6
  replace H := Option.bind_eq_some_iff.mp H
  obtain ⟨t432, A450, H⟩ := H
  replace H : (some t432) = some r := H
  have A45 := Aside0.mk A450
  clear A450
  obtain rfl := Option.some.inj H
  go_enter Try.func29, Try.ntmps29
  go_wp2_with (first | ((with_reducible refine gate_dst (N := 4) rfl ?_); refine box_event ?hg (N := 4) ?hd (cs := #[.int .i64 a0_0, .int .i64 a0_1, .int .i64 a0_2, .int .i64 a0_3, .int .i64 a0_4, .int .i64 a0_5, .int .i64 a0_6, .int .i64 a0_7, .int .i64 a0_8, .int .i64 a0_9, .slice A0_10 l0_10.length c0_10]) (t := 42) ?hr ?_; (case hd => rfl); (case hg => rfl); (case hr => first | (go_simp; done) | (go_simp; rfl)); intro gb430 hg w46 hbox hb; have n0_ := Aside0.mk (below_step (by repeat (first | (with_reducible first | exact HB.out | apply below_alloc | apply pw_below_drewN | apply below_drew1) | exact HB.out)) hb); have n1_ := Aside0.mk (hbox); have n2_ := Aside0.mk ((by rw [hg]; exact (below_size (by repeat (first | (with_reducible first | exact HB.out | apply below_alloc | apply pw_below_drewN | apply below_drew1) | exact HB.out))) : w.heap.size ≤ gb430)); have n3_ := Aside0.mk ((by rw [hg]; exact (below_size (by repeat (first | (with_reducible first | exact HB.out | apply below_alloc | apply pw_below_drewN | apply below_drew1) | exact HB.out))) : w.heap.size ≤ gb430)); clear HB; have HB := n0_; have BK430 := n1_; have GW430 := n2_; have GE430 := n3_; clear n0_ n1_ n2_ n3_; clear hb hbox hg; have hcz47_0 : w46.cell? ⟨gb430, 0, none⟩ = some (.int .i64 a0_0) := (blk_cell BK430.out 0).trans rfl; have hcz47_1 : w46.cell? ⟨gb430, 1, none⟩ = some (.int .i64 a0_1) := (blk_cell BK430.out 1).trans rfl; have hcz47_2 : w46.cell? ⟨gb430, 2, none⟩ = some (.int .i64 a0_2) := (blk_cell BK430.out 2).trans rfl; have hcz47_3 : w46.cell? ⟨gb430, 3, none⟩ = some (.int .i64 a0_3) := (blk_cell BK430.out 3).trans rfl; have hcz47_4 : w46.cell? ⟨gb430, 4, none⟩ = some (.int .i64 a0_4) := (blk_cell BK430.out 4).trans rfl; have hcz47_5 : w46.cell? ⟨gb430, 5, none⟩ = some (.int .i64 a0_5) := (blk_cell BK430.out 5).trans rfl; have hcz47_6 : w46.cell? ⟨gb430, 6, none⟩ = some (.int .i64 a0_6) := (blk_cell BK430.out 6).trans rfl; have hcz47_7 : w46.cell? ⟨gb430, 7, none⟩ = some (.int .i64 a0_7) := (blk_cell BK430.out 7).trans rfl; have hcz47_8 : w46.cell? ⟨gb430, 8, none⟩ = some (.int .i64 a0_8) := (blk_cell BK430.out 8).trans rfl; have hcz47_9 : w46.cell? ⟨gb430, 9, none⟩ = some (.int .i64 a0_9) := (blk_cell BK430.out 9).trans rfl; have hcz47_10 : w46.cell? ⟨gb430, 10, none⟩ = some (.slice A0_10 l0_10.length c0_10) := (blk_cell BK430.out 10).trans rfl; have hfz47_0 := blk_frozen BK430.out 0; have hfz47_1 := blk_frozen BK430.out 1; have hfz47_2 := blk_frozen BK430.out 2; have hfz47_3 := blk_frozen BK430.out 3; have hfz47_4 := blk_frozen BK430.out 4; have hfz47_5 := blk_frozen BK430.out 5; have hfz47_6 := blk_frozen BK430.out 6; have hfz47_7 := blk_frozen BK430.out 7; have hfz47_8 := blk_frozen BK430.out 8; have hfz47_9 := blk_frozen BK430.out 9; have hfz47_10 := blk_frozen BK430.out 10) | ((with_reducible refine gate_callee (f := 34) rfl ?_); refine goesL_ (some 17) rfl rfl Try.func34 (by kernel_rfl) rfl #[.agg #[.int .i64 a0_0, .int .i64 a0_1, .int .i64 a0_2, .int .i64 a0_3, .int .i64 a0_4, .int .i64 a0_5, .int .i64 a0_6, .int .i64 a0_7, .int .i64 a0_8, .int .i64 a0_9, .slice A0_10 l0_10.length c0_10]] rfl (by (try simp only [List.map_toArray, List.map_cons, List.map_nil]); first | done | rfl | (simp only [List.length_drop, List.length_take]; rfl)) ?_; (with_reducible refine (bellwetherref03_Plain.calls k a0_0 a0_1 a0_2 a0_3 a0_4 a0_5 a0_6 a0_7 a0_8 a0_9 _ _ l0_10 t431 _ ?side1 ?side2 A5.out).mono ?_); (case side1 => repeat (first | exact (Kd.C_below HR0_10.out HB.out) | (with_reducible refine Kd.C_alloc ?_ _) | (with_reducible refine Kd.C_drewN ?_ _) | (with_reducible refine Kd.C_drew ?_))); (case side2 => exact HC0_10.out); rintro e w48 ⟨rfl, hb⟩; refine ⟨_, rfl, ?_⟩; have n0_ := Aside0.mk (blk_below (g := gb430) (o := .cells #[.int .i64 a0_0, .int .i64 a0_1, .int .i64 a0_2, .int .i64 a0_3, .int .i64 a0_4, .int .i64 a0_5, .int .i64 a0_6, .int .i64 a0_7, .int .i64 a0_8, .int .i64 a0_9, .slice A0_10 l0_10.length c0_10] 42 (0, 0)) (by (with_reducible repeat (first | refine blk_drewN ?_ _ | refine blk_drew ?_ | refine blk_alloc ?_ _)); exact BK430.out) hb); have n1_ := Aside0.mk (below_step (by repeat (first | (with_reducible first | exact HB.out | apply below_alloc | apply pw_below_drewN | apply below_drew1 | refine below_set ?_ GE430.out) | exact HB.out)) hb); clear BK430; clear HB; have BK430 := n0_; have HB := n1_; clear n0_ n1_; (try clear hb); (try clear hb2); (try clear hk); (try clear hi); have hcz49_0 : w48.cell? ⟨gb430, 0, none⟩ = some (.int .i64 a0_0) := (blk_cell BK430.out 0).trans rfl; have hcz49_1 : w48.cell? ⟨gb430, 1, none⟩ = some (.int .i64 a0_1) := (blk_cell BK430.out 1).trans rfl; have hcz49_2 : w48.cell? ⟨gb430, 2, none⟩ = some (.int .i64 a0_2) := (blk_cell BK430.out 2).trans rfl; have hcz49_3 : w48.cell? ⟨gb430, 3, none⟩ = some (.int .i64 a0_3) := (blk_cell BK430.out 3).trans rfl; have hcz49_4 : w48.cell? ⟨gb430, 4, none⟩ = some (.int .i64 a0_4) := (blk_cell BK430.out 4).trans rfl; have hcz49_5 : w48.cell? ⟨gb430, 5, none⟩ = some (.int .i64 a0_5) := (blk_cell BK430.out 5).trans rfl; have hcz49_6 : w48.cell? ⟨gb430, 6, none⟩ = some (.int .i64 a0_6) := (blk_cell BK430.out 6).trans rfl; have hcz49_7 : w48.cell? ⟨gb430, 7, none⟩ = some (.int .i64 a0_7) := (blk_cell BK430.out 7).trans rfl; have hcz49_8 : w48.cell? ⟨gb430, 8, none⟩ = some (.int .i64 a0_8) := (blk_cell BK430.out 8).trans rfl; have hcz49_9 : w48.cell? ⟨gb430, 9, none⟩ = some (.int .i64 a0_9) := (blk_cell BK430.out 9).trans rfl; have hcz49_10 : w48.cell? ⟨gb430, 10, none⟩ = some (.slice A0_10 l0_10.length c0_10) := (blk_cell BK430.out 10).trans rfl; have hfz49_0 := blk_frozen BK430.out 0; have hfz49_1 := blk_frozen BK430.out 1; have hfz49_2 := blk_frozen BK430.out 2; have hfz49_3 := blk_frozen BK430.out 3; have hfz49_4 := blk_frozen BK430.out 4; have hfz49_5 := blk_frozen BK430.out 5; have hfz49_6 := blk_frozen BK430.out 6; have hfz49_7 := blk_frozen BK430.out 7; have hfz49_8 := blk_frozen BK430.out 8; have hfz49_9 := blk_frozen BK430.out 9; have hfz49_10 := blk_frozen BK430.out 10) | ((with_reducible refine gate_callee (f := 34) rfl ?_); refine goesL_ (some 20) rfl rfl Try.func34 (by kernel_rfl) rfl #[.agg #[.int .i64 a0_0, .int .i64 a0_1, .int .i64 a0_2, .int .i64 a0_3, .int .i64 a0_4, .int .i64 a0_5, .int .i64 a0_6, .int .i64 a0_7, .int .i64 a0_8, .int .i64 a0_9, .slice A0_10 l0_10.length c0_10]] rfl (by (try simp only [List.map_toArray, List.map_cons, List.map_nil]); first | done | rfl | (simp only [List.length_drop, List.length_take]; rfl)) ?_; (with_reducible refine (bellwetherref03_Plain.calls k a0_0 a0_1 a0_2 a0_3 a0_4 a0_5 a0_6 a0_7 a0_8 a0_9 _ _ l0_10 t432 _ ?side1 ?side2 A45.out).mono ?_); (case side1 => repeat (first | exact (Kd.C_below HR0_10.out HB.out) | (with_reducible refine Kd.C_alloc ?_ _) | (with_reducible refine Kd.C_drewN ?_ _) | (with_reducible refine Kd.C_drew ?_))); (case side2 => exact HC0_10.out); rintro e w50 ⟨rfl, hb⟩; refine ⟨_, rfl, ?_⟩; have n0_ := Aside0.mk (blk_below (g := gb430) (o := .cells #[.int .i64 a0_0, .int .i64 a0_1, .int .i64 a0_2, .int .i64 a0_3, .int .i64 a0_4, .int .i64 a0_5, .int .i64 a0_6, .int .i64 a0_7, .int .i64 a0_8, .int .i64 a0_9, .slice A0_10 l0_10.length c0_10] 42 (0, 0)) (by (with_reducible repeat (first | refine blk_drewN ?_ _ | refine blk_drew ?_ | refine blk_alloc ?_ _)); exact BK430.out) hb); have n1_ := Aside0.mk (below_step (by repeat (first | (with_reducible first | exact HB.out | apply below_alloc | apply pw_below_drewN | apply below_drew1 | refine below_set ?_ GE430.out) | exact HB.out)) hb); clear BK430; clear HB; have BK430 := n0_; have HB := n1_; clear n0_ n1_; (try clear hb); (try clear hb2); (try clear hk); (try clear hi)))
  go_ret
  exact ⟨by first | rfl | (simp [errW_none, errW_some] <;> rfl) | (simp [*, errW_none, errW_some] <;> rfl), by repeat (first | (with_reducible first | exact HB.out | apply below_alloc | apply pw_below_drewN | apply below_drew1 | refine below_set ?_ GE430.out) | exact HB.out)⟩
end Go.Proofs.Ytmdnmofcgmmfbaa.X
