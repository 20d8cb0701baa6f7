import Derived.Test.YthblnnboeikgcaaYBeatSteps46
import Derived.Test.YthblnnboeikgcaaYBeatSteps48
set_option maxHeartbeats 8000000
set_option maxRecDepth 100000
namespace Go.Proofs.Ythblnnboeikgcaa.B
open Go.RowKit Go.Proofs.YthblnnboeikgcaaW.PrintWords Go.Proofs.YthblnnboeikgcaaW.PrintLast Go.Proofs.YthblnnboeikgcaaW.PrintMore
attribute [local go_sem] max2_int min2_int max_two min_two max_three min_three max_four min_four   -- for this text's walks alone
set_option linter.unusedVariables false
set_option linter.unusedSimpArgs false
def l18BeatSteps.j0 : Nat → ByteArray → Int → List ByteArray → Bool → Int → Int → Int → Int → Int → Int → Int → Int → Int → Int → List Int → Option (Bool)
 | 0, _, _, _, _, _, _, _, _, _, _, _, _, _, _, _ => none
 | k + 1, x1, x2, x3, x24, v00, v01, v02, v03, v04, v05, v06, v07, v08, v09, v10 => if x24 = true then ((l18known.f k).bind fun t357 => (some t357)) else ((beat_Step.f k v00 v01 v02 v03 v04 v05 v06 v07 v08 v09 v10 x1 x2 ((x3.length : Int) % 4) x3).bind fun bt358 => ((r18Step.f k v00 v01 v02 v03 v04 v05 v06 v07 v08 v09 v10 x1 x2 ((x3.length : Int) % 4) x3).bind fun bt362 => (if bt358.1.toList = bt362.1.toList then (if bt358.2.1 = bt362.2.1 then (if bt358.2.2.1 = bt362.2.2.1 then (if (bt358.2.2.2 == bt362.2.2.2) = true then ((l18known.f k).bind fun t366 => (some t366)) else (some false)) else (some false)) else (some false)) else (some false))))
def l18BeatSteps.f (k : Nat) (a0_0 : Int) (a0_1 : Int) (a0_2 : Int) (a0_3 : Int) (a0_4 : Int) (a0_5 : Int) (a0_6 : Int) (a0_7 : Int) (a0_8 : Int) (a0_9 : Int) (l0_10 : List Int) (a1 : ByteArray) (a2 : Int) (l3 : List ByteArray) : Option (Bool) := if (a1.size : Int) > 100 then (l18BeatSteps.j0 k a1 a2 l3 true a0_0 a0_1 a0_2 a0_3 a0_4 a0_5 a0_6 a0_7 a0_8 a0_9 l0_10) else (l18BeatSteps.j0 k a1 a2 l3 (decide ((l3.length : Int) > 20)) a0_0 a0_1 a0_2 a0_3 a0_4 a0_5 a0_6 a0_7 a0_8 a0_9 l0_10)
theorem l18BeatSteps.calls (k : Nat) (a0_0 : Int) (a0_1 : Int) (a0_2 : Int) (a0_3 : Int) (a0_4 : Int) (a0_5 : Int) (a0_6 : Int) (a0_7 : Int) (a0_8 : Int) (a0_9 : Int) (A0_10 : Option Addr) (c0_10 : Nat) (l0_10 : List Int) (a1 : ByteArray) (a2 : Int) (A3 : Option Addr) (c3 : Nat) (l3 : List ByteArray) (r : Bool) (w : World) (hr0_10 : Kd.C (Kd.int .i64) w A0_10 l0_10.length l0_10) (hc0_10 : l0_10.length ≤ c0_10) (hr3 : Kd.C Kd.string w A3 l3.length l3) (hc3 : l3.length ≤ c3) (h : l18BeatSteps.f k a0_0 a0_1 a0_2 a0_3 a0_4 a0_5 a0_6 a0_7 a0_8 a0_9 l0_10 a1 a2 l3 = some r) (hT : Sd (r = true) := by first | exact ⟨rfl⟩ | assumption) :
  Calls Try.prog 11 #[.agg #[.int .i64 a0_0, .int .i64 a0_1, .int .i64 a0_2, .int .i64 a0_3, .int .i64 a0_4, .int .i64 a0_5, .int .i64 a0_6, .int .i64 a0_7, .int .i64 a0_8, .int .i64 a0_9, .slice A0_10 l0_10.length c0_10], .string a1, .int .i64 a2, .slice A3 l3.length c3] w fun e w' => e = .returned (.bool r) ∧ Below w.heap.size w w' := by
 have hu24 := Try.underlying24
 have HR0_10 := Sd.mk hr0_10
 have HC0_10 := Sd.mk hc0_10
 clear hr0_10 hc0_10
 have HR3 := Sd.mk hr3
 have HC3 := Sd.mk hc3
 clear hr3 hc3
 have HB := Sd.mk (Below.refl w.heap.size w)
 have H : (if (a1.size : Int) > 100 then (l18BeatSteps.j0 k a1 a2 l3 true a0_0 a0_1 a0_2 a0_3 a0_4 a0_5 a0_6 a0_7 a0_8 a0_9 l0_10) else (l18BeatSteps.j0 k a1 a2 l3 (decide ((l3.length : Int) > 20)) a0_0 a0_1 a0_2 a0_3 a0_4 a0_5 a0_6 a0_7 a0_8 a0_9 l0_10)) = some r := h
 clear h
 have HC5 := Sd.mk H
 clear H
 go_enter Try.func11, Try.ntmps11
 go_upto_region 1 with (first | ((with_reducible refine gate_dst (N := 4) rfl ?_); (try (refine gate_guard (by rfl) ?_; dsimp only)); refine box_event ?hg (N := 4) ?hd (cs := #[.int .i64 a0_0, .int .i64 a0_1, .int .i64 a0_2, .int .i64 a0_3, .int .i64 a0_4, .int .i64 a0_5, .int .i64 a0_6, .int .i64 a0_7, .int .i64 a0_8, .int .i64 a0_9, .slice A0_10 l0_10.length c0_10]) (t := 24) ?hr ?_; (case hd => rfl); (case hg => rfl); (case hr => first | (go_simp; done) | (go_simp; rfl)); intro gb356 hg w6 hbox hb; have n0_ := Sd.mk (below_step bel_ hb); have n1_ := Sd.mk (hbox); have n2_ := Sd.mk ((by rw [hg]; exact (below_size bel_) : w.heap.size ≤ gb356)); have n3_ := Sd.mk ((by rw [hg]; exact (below_size bel_) : w.heap.size ≤ gb356)); clear HB; have HB := n0_; have BK356 := n1_; have GW356 := n2_; have GE356 := n3_; clear n0_ n1_ n2_ n3_; clear hb hbox hg))
 (try simp only [Act.put, List.setIfInBounds_toArray, List.set_cons_zero, List.set_cons_succ])
 go_cut [24] (fun v24 wc => ∃ (kq : Nat) (x24_4 : Bool), v24 = .bool x24_4 ∧ Sd (l18BeatSteps.j0 kq a1 a2 l3 x24_4 a0_0 a0_1 a0_2 a0_3 a0_4 a0_5 a0_6 a0_7 a0_8 a0_9 l0_10 = some r) ∧ Sd (kq ≤ k) ∧ Sd (wc.heap[gb356]? = some (.cells #[.int .i64 a0_0, .int .i64 a0_1, .int .i64 a0_2, .int .i64 a0_3, .int .i64 a0_4, .int .i64 a0_5, .int .i64 a0_6, .int .i64 a0_7, .int .i64 a0_8, .int .i64 a0_9, (.slice A0_10 l0_10.length c0_10)] 24 (0, 0))) ∧ Sd (Below w.heap.size w wc))
 case first =>
  have H := HC5.out
  clear HC5
  by_cases c7 : (a1.size : Int) > 100
  ·
   rw [if_pos c7] at H
   have c7b0 : decide (100 < (a1.size : Int)) = true := decide_eq_true c7
   have c7b1 : decide (100 < a1.size) = true := decide_eq_true (by omega)
   clear c7
   (first | rw [c7b0] | (simp only [i64_w, i32_w]; rw [c7b0]) | skip)
   (try rw [c7b1])
   have H' := Sd.mk H
   clear H
   go_wp2
   go_meet
   case rel => exact ⟨_, (true), (by first | rfl | (simp; done) | (simp [*]; done)), H', ⟨by first | omega | exact Nat.le_refl _⟩, ⟨blk_⟩, ⟨bel_⟩⟩
  ·
   rw [if_neg c7] at H
   have c7b0 : decide (100 < (a1.size : Int)) = false := decide_eq_false c7
   have c7b1 : decide (100 < a1.size) = false := decide_eq_false (by omega)
   clear c7
   (first | rw [c7b0] | (simp only [i64_w, i32_w]; rw [c7b0]) | skip)
   (try rw [c7b1])
   have H' := Sd.mk H
   clear H
   go_wp2
   go_meet
   case rel => exact ⟨_, (decide ((l3.length : Int) > 20)), (by first | rfl | (simp; done) | (simp [*]; done)), H', ⟨by first | omega | exact Nat.le_refl _⟩, ⟨blk_⟩, ⟨bel_⟩⟩
 case rest =>
  clear HC5
  try clear c1
  try clear p2
  try clear c3
  try clear c7
  try clear c7b0
  try clear c7b1
  obtain ⟨kq, x24_4, rfl, HA, HJ4, BK356, HB⟩ := hcut
  cases kq with
  | zero => exact absurd HA.out (by simp [l18BeatSteps.j0])
  | succ kj4 =>
   have H := HA.out
   clear HA
   simp only [l18BeatSteps.j0] at H
   by_cases c8 : x24_4 = true
   ·
    subst c8
    have H1 : ((l18known.f kj4).bind fun t357 => (some t357)) = some r := by rw [if_pos rfl] at H; exact H
    clear H
    have H := H1
    clear H1
    replace H := Option.bind_eq_some_iff.mp H
    obtain ⟨t357, A90, H⟩ := H
    replace H : (some t357) = some r := H
    have A9 := Sd.mk A90
    clear A90
    obtain rfl := Option.some.inj H
    go_wp2_with (first | ((with_reducible refine gate_callee (f := 46) rfl ?_); refine goesL_ (some 25) rfl rfl Try.func46 (by kernel_rfl) rfl #[] rfl (by (try simp only [List.map_toArray, List.map_cons, List.map_nil]); first | done | rfl | (simp only [List.length_drop, List.length_take]; rfl)) ?_; (with_reducible refine (l18known.calls kj4  t357 _ A9.out).mono ?_); rintro e w10 ⟨rfl, hb⟩; refine ⟨_, rfl, ?_⟩; have n0_ := Sd.mk (blk_below (g := gb356) blk_ hb); have n1_ := Sd.mk (below_step bel_ hb); clear BK356; clear HB; have BK356 := n0_; have HB := n1_; clear n0_ n1_; (try clear hb); (try clear hb2); (try clear hk); (try clear hi)))
    go_ret
    exact ⟨by first | rfl | (simp [errW_none, errW_some] <;> rfl) | (simp [*, errW_none, errW_some] <;> rfl), bel_⟩
   ·
    replace c8 := Bool.eq_false_iff.mpr c8
    subst c8
    have H1 : ((beat_Step.f kj4 a0_0 a0_1 a0_2 a0_3 a0_4 a0_5 a0_6 a0_7 a0_8 a0_9 l0_10 a1 a2 ((l3.length : Int) % 4) l3).bind fun bt358 => ((r18Step.f kj4 a0_0 a0_1 a0_2 a0_3 a0_4 a0_5 a0_6 a0_7 a0_8 a0_9 l0_10 a1 a2 ((l3.length : Int) % 4) l3).bind fun bt362 => (if bt358.1.toList = bt362.1.toList then (if bt358.2.1 = bt362.2.1 then (if bt358.2.2.1 = bt362.2.2.1 then (if (bt358.2.2.2 == bt362.2.2.2) = true then ((l18known.f kj4).bind fun t366 => (some t366)) else (some false)) else (some false)) else (some false)) else (some false)))) = some r := by rw [if_neg (show ¬ (false = true) by decide)] at H; exact H
    clear H
    have H := H1
    clear H1
    replace H := Option.bind_eq_some_iff.mp H
    obtain ⟨⟨t358, t359, t360, t361⟩, A110, H⟩ := H
    replace H : ((r18Step.f kj4 a0_0 a0_1 a0_2 a0_3 a0_4 a0_5 a0_6 a0_7 a0_8 a0_9 l0_10 a1 a2 ((l3.length : Int) % 4) l3).bind fun bt362 => (if t358.toList = bt362.1.toList then (if t359 = bt362.2.1 then (if t360 = bt362.2.2.1 then (if (t361 == bt362.2.2.2) = true then ((l18known.f kj4).bind fun t366 => (some t366)) else (some false)) else (some false)) else (some false)) else (some false))) = some r := H
    have A11 := Sd.mk A110
    clear A110
    replace H := Option.bind_eq_some_iff.mp H
    obtain ⟨⟨t362, t363, t364, t365⟩, A120, H⟩ := H
    replace H : (if t358.toList = t362.toList then (if t359 = t363 then (if t360 = t364 then (if (t361 == t365) = true then ((l18known.f kj4).bind fun t366 => (some t366)) else (some false)) else (some false)) else (some false)) else (some false)) = some r := H
    have A12 := Sd.mk A120
    clear A120
    by_cases c13 : t358.toList = t362.toList
    ·
     rw [if_pos c13] at H
     have c13b0 : (t358.toList == t362.toList) = true := beq_iff_eq.mpr c13
     have c13b1 : (t358.toList != t362.toList) = false := bne_eq_false_iff_eq.mpr c13
     clear c13
     by_cases c14 : t359 = t363
     ·
      rw [if_pos c14] at H
      have c14b0 : (t359 == t363) = true := beq_iff_eq.mpr c14
      have c14b1 : (t359 != t363) = false := bne_eq_false_iff_eq.mpr c14
      clear c14
      by_cases c15 : t360 = t364
      ·
       rw [if_pos c15] at H
       have c15b0 : (t360 == t364) = true := beq_iff_eq.mpr c15
       have c15b1 : (t360 != t364) = false := bne_eq_false_iff_eq.mpr c15
       clear c15
       by_cases c16 : (t361 == t365) = true
       ·
        rw [if_pos c16] at H
        have c16b0 : (t361 == t365) = true := c16
        (try (have c16b1 : decide (t361 = t365) = true := by simpa using c16))
        (try (have c16b2 : (t361 == t365) = true := by simpa using c16))
        clear c16
        replace H := Option.bind_eq_some_iff.mp H
        obtain ⟨t366, A170, H⟩ := H
        replace H : (some t366) = some r := H
        have A17 := Sd.mk A170
        clear A170
        obtain rfl := Option.some.inj H
        obtain ⟨z18_0, z18_1, z18_2, z18_3, z18_4, z18_5, z18_6, z18_7, z18_8, z18_9, z18_10, j18_0, j18_1, j18_2, j18_3, j18_4, j18_5, j18_6, j18_7, j18_8, j18_9, j18_10⟩ := cells11 BK356.out
        go_wp2_with (first | ((with_reducible refine gate_callee (f := 47) rfl ?_); refine goesL_ (some 34) rfl rfl Try.func47 (by kernel_rfl) rfl #[.agg #[.int .i64 a0_0, .int .i64 a0_1, .int .i64 a0_2, .int .i64 a0_3, .int .i64 a0_4, .int .i64 a0_5, .int .i64 a0_6, .int .i64 a0_7, .int .i64 a0_8, .int .i64 a0_9, .slice A0_10 l0_10.length c0_10], .string a1, .int .i64 a2, .int .i64 ((l3.length : Int) % 4), .slice A3 l3.length c3] rfl (by (try simp only [List.map_toArray, List.map_cons, List.map_nil]); first | done | rfl | (simp only [List.length_drop, List.length_take]; rfl)) ?_; (with_reducible refine (beat_Step.calls kj4 a0_0 a0_1 a0_2 a0_3 a0_4 a0_5 a0_6 a0_7 a0_8 a0_9 _ _ l0_10 a1 a2 ((l3.length : Int) % 4) _ _ l3 t358 t359 t360 t361 _ ?side1 ?side2 ?side3 ?side4 A11.out).mono ?_); (case side1 => repeat (first | exact (Kd.C_below HR0_10.out HB.out) | (with_reducible refine Kd.C_alloc ?_ _) | (with_reducible refine Kd.C_drewN ?_ _) | (with_reducible refine Kd.C_drew ?_))); (case side2 => exact HC0_10.out); (case side3 => repeat (first | exact (Kd.C_below HR3.out HB.out) | (with_reducible refine Kd.C_alloc ?_ _) | (with_reducible refine Kd.C_drewN ?_ _) | (with_reducible refine Kd.C_drew ?_))); (case side4 => exact HC3.out); rintro e w19 ⟨rfl, hb⟩; refine ⟨_, rfl, ?_⟩; have n0_ := Sd.mk (blk_below (g := gb356) blk_ hb); have n1_ := Sd.mk (below_step bel_ hb); clear BK356; clear HB; have BK356 := n0_; have HB := n1_; clear n0_ n1_; (try clear hb); (try clear hb2); (try clear hk); (try clear hi); obtain ⟨z20_0, z20_1, z20_2, z20_3, z20_4, z20_5, z20_6, z20_7, z20_8, z20_9, z20_10, j20_0, j20_1, j20_2, j20_3, j20_4, j20_5, j20_6, j20_7, j20_8, j20_9, j20_10⟩ := cells11 BK356.out) | ((with_reducible refine gate_callee (f := 48) rfl ?_); refine goesL_ (some 47) rfl rfl Try.func48 (by kernel_rfl) rfl #[.agg #[.int .i64 a0_0, .int .i64 a0_1, .int .i64 a0_2, .int .i64 a0_3, .int .i64 a0_4, .int .i64 a0_5, .int .i64 a0_6, .int .i64 a0_7, .int .i64 a0_8, .int .i64 a0_9, .slice A0_10 l0_10.length c0_10], .string a1, .int .i64 a2, .int .i64 ((l3.length : Int) % 4), .slice A3 l3.length c3] rfl (by (try simp only [List.map_toArray, List.map_cons, List.map_nil]); first | done | rfl | (simp only [List.length_drop, List.length_take]; rfl)) ?_; (with_reducible refine (r18Step.calls kj4 a0_0 a0_1 a0_2 a0_3 a0_4 a0_5 a0_6 a0_7 a0_8 a0_9 _ _ l0_10 a1 a2 ((l3.length : Int) % 4) _ _ l3 t362 t363 t364 t365 _ ?side1 ?side2 ?side3 ?side4 A12.out).mono ?_); (case side1 => repeat (first | exact (Kd.C_below HR0_10.out HB.out) | (with_reducible refine Kd.C_alloc ?_ _) | (with_reducible refine Kd.C_drewN ?_ _) | (with_reducible refine Kd.C_drew ?_))); (case side2 => exact HC0_10.out); (case side3 => repeat (first | exact (Kd.C_below HR3.out HB.out) | (with_reducible refine Kd.C_alloc ?_ _) | (with_reducible refine Kd.C_drewN ?_ _) | (with_reducible refine Kd.C_drew ?_))); (case side4 => exact HC3.out); rintro e w21 ⟨rfl, hb⟩; refine ⟨_, rfl, ?_⟩; have n0_ := Sd.mk (blk_below (g := gb356) blk_ hb); have n1_ := Sd.mk (below_step bel_ hb); clear BK356; clear HB; have BK356 := n0_; have HB := n1_; clear n0_ n1_; (try clear hb); (try clear hb2); (try clear hk); (try clear hi)) | (go_at_call 46; (with_reducible refine (l18known.calls kj4  t366 _ A17.out).mono ?_); rintro e w22 ⟨rfl, hb⟩; have n0_ := Sd.mk (blk_below (g := gb356) blk_ hb); have n1_ := Sd.mk (below_step bel_ hb); clear BK356; clear HB; have BK356 := n0_; have HB := n1_; clear n0_ n1_; (try clear hb); (try clear hb2); (try clear hk); (try clear hi)))
        go_ret
        exact ⟨by first | rfl | (simp [errW_none, errW_some] <;> rfl) | (simp [*, errW_none, errW_some] <;> rfl), bel_⟩
       ·
        rw [if_neg c16] at H
        have c16b0 : (t361 == t365) = false := by simpa using c16
        (try (have c16b1 : decide (t361 = t365) = false := by simpa using c16))
        (try (have c16b2 : (t361 == t365) = false := by simpa using c16))
        (try (have c16b3 : ¬ (t361 = t365) := by simpa using c16))
        clear c16
        (have H3_ := Option.some.inj H; have H4_ := hT.out; rw [← H3_] at H4_; exact absurd H4_ (by decide))
      ·
       rw [if_neg c15] at H
       have c15b0 : (t360 == t364) = false := beq_eq_false_iff_ne.mpr c15
       have c15b1 : (t360 != t364) = true := bne_iff_ne.mpr c15
       (have H3_ := Option.some.inj H; have H4_ := hT.out; rw [← H3_] at H4_; exact absurd H4_ (by decide))
     ·
      rw [if_neg c14] at H
      have c14b0 : (t359 == t363) = false := beq_eq_false_iff_ne.mpr c14
      have c14b1 : (t359 != t363) = true := bne_iff_ne.mpr c14
      (have H3_ := Option.some.inj H; have H4_ := hT.out; rw [← H3_] at H4_; exact absurd H4_ (by decide))
    ·
     rw [if_neg c13] at H
     have c13b0 : (t358.toList == t362.toList) = false := beq_eq_false_iff_ne.mpr c13
     have c13b1 : (t358.toList != t362.toList) = true := bne_iff_ne.mpr c13
     (have H3_ := Option.some.inj H; have H4_ := hT.out; rw [← H3_] at H4_; exact absurd H4_ (by decide))
end Go.Proofs.Ythblnnboeikgcaa.B
