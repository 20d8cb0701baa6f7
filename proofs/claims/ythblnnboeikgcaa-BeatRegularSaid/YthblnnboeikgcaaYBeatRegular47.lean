import Derived.Test.YthblnnboeikgcaaYBeatRegular45
import Derived.Test.YthblnnboeikgcaaYBeatRegular46
set_option maxHeartbeats 8000000
set_option maxRecDepth 100000
namespace Go.Proofs.Ythblnnboeikgcaa.B
open Go.RowKit Go.Proofs.YthblnnboeikgcaaW.PrintWords Go.Proofs.YthblnnboeikgcaaW.PrintLast Go.Proofs.YthblnnboeikgcaaW.PrintMore
attribute [local go_sem] max2_int min2_int max_two min_two max_three min_three max_four min_four   -- for this text's walks alone
set_option linter.unusedVariables false
set_option linter.unusedSimpArgs false
def l18BeatRegular.j0 : Nat → Int → ByteArray → Int → Bool → Int → Int → Int → Int → Int → Int → Int → Int → Int → Int → List Int → Option (Bool)
 | 0, _, _, _, _, _, _, _, _, _, _, _, _, _, _, _ => none
 | k + 1, x1, x2, x3, x26, v00, v01, v02, v03, v04, v05, v06, v07, v08, v09, v10 => if x26 = true then ((l18known.f k).bind fun t401 => (some t401)) else ((r03Length.f k v00 v01 v02 v03 v04 v05 v06 v07 v08 v09 v10).bind fun t402 => ((beat_Alone.f k v00 v01 v02 v03 v04 v05 v06 v07 v08 v09 v10 x1 x2 (wrap64 ((wrap64 (v03 + (wrap64 (2 * t402)))) + x3))).bind fun t403 => (if (t403.size : Int) = (wrap64 ((wrap64 (v03 + (wrap64 (2 * t402)))) + x3)) then ((l18regular.f k v00 v01 v02 v03 v04 v05 v06 v07 v08 v09 v10 t403 (wrap64 (v03 + (wrap64 (2 * t402))))).bind fun t404 => (if t404 = true then ((l18known.f k).bind fun t405 => (some t405)) else (some false))) else (some false))))
def l18BeatRegular.f (k : Nat) (a0_0 : Int) (a0_1 : Int) (a0_2 : Int) (a0_3 : Int) (a0_4 : Int) (a0_5 : Int) (a0_6 : Int) (a0_7 : Int) (a0_8 : Int) (a0_9 : Int) (l0_10 : List Int) (a1 : Int) (a2 : ByteArray) (a3 : Int) : Option (Bool) := (r03Plain.f k a0_0 a0_1 a0_2 a0_3 a0_4 a0_5 a0_6 a0_7 a0_8 a0_9 l0_10).bind fun t400 => (if t400 = 0 then (if a3 < 0 then (l18BeatRegular.j0 k a1 a2 a3 true a0_0 a0_1 a0_2 a0_3 a0_4 a0_5 a0_6 a0_7 a0_8 a0_9 l0_10) else (if a3 > 300 then (l18BeatRegular.j0 k a1 a2 a3 true a0_0 a0_1 a0_2 a0_3 a0_4 a0_5 a0_6 a0_7 a0_8 a0_9 l0_10) else (l18BeatRegular.j0 k a1 a2 a3 (decide ((a2.size : Int) > 200)) a0_0 a0_1 a0_2 a0_3 a0_4 a0_5 a0_6 a0_7 a0_8 a0_9 l0_10))) else (l18BeatRegular.j0 k a1 a2 a3 true a0_0 a0_1 a0_2 a0_3 a0_4 a0_5 a0_6 a0_7 a0_8 a0_9 l0_10))
theorem l18BeatRegular.calls (k : Nat) (a0_0 : Int) (a0_1 : Int) (a0_2 : Int) (a0_3 : Int) (a0_4 : Int) (a0_5 : Int) (a0_6 : Int) (a0_7 : Int) (a0_8 : Int) (a0_9 : Int) (A0_10 : Option Addr) (c0_10 : Nat) (l0_10 : List Int) (a1 : Int) (a2 : ByteArray) (a3 : Int) (r : Bool) (w : World) (hr0_10 : Kd.C (Kd.int .i64) w A0_10 l0_10.length l0_10) (hc0_10 : l0_10.length ≤ c0_10) (h : l18BeatRegular.f k a0_0 a0_1 a0_2 a0_3 a0_4 a0_5 a0_6 a0_7 a0_8 a0_9 l0_10 a1 a2 a3 = some r) (hT : Sd (r = true) := by first | exact ⟨rfl⟩ | assumption) :
  Calls Try.prog 13 #[.agg #[.int .i64 a0_0, .int .i64 a0_1, .int .i64 a0_2, .int .i64 a0_3, .int .i64 a0_4, .int .i64 a0_5, .int .i64 a0_6, .int .i64 a0_7, .int .i64 a0_8, .int .i64 a0_9, .slice A0_10 l0_10.length c0_10], .int .i64 a1, .string a2, .int .i64 a3] w fun e w' => e = .returned (.bool r) ∧ Below w.heap.size w w' := by
 have hu24 := Try.underlying24
 have HR0_10 := Sd.mk hr0_10
 have HC0_10 := Sd.mk hc0_10
 clear hr0_10 hc0_10
 have HB := Sd.mk (Below.refl w.heap.size w)
 have H : ((r03Plain.f k a0_0 a0_1 a0_2 a0_3 a0_4 a0_5 a0_6 a0_7 a0_8 a0_9 l0_10).bind fun t400 => (if t400 = 0 then (if a3 < 0 then (l18BeatRegular.j0 k a1 a2 a3 true a0_0 a0_1 a0_2 a0_3 a0_4 a0_5 a0_6 a0_7 a0_8 a0_9 l0_10) else (if a3 > 300 then (l18BeatRegular.j0 k a1 a2 a3 true a0_0 a0_1 a0_2 a0_3 a0_4 a0_5 a0_6 a0_7 a0_8 a0_9 l0_10) else (l18BeatRegular.j0 k a1 a2 a3 (decide ((a2.size : Int) > 200)) a0_0 a0_1 a0_2 a0_3 a0_4 a0_5 a0_6 a0_7 a0_8 a0_9 l0_10))) else (l18BeatRegular.j0 k a1 a2 a3 true a0_0 a0_1 a0_2 a0_3 a0_4 a0_5 a0_6 a0_7 a0_8 a0_9 l0_10))) = some r := h
 clear h
 have HC5 := Sd.mk H
 clear H
 go_enter Try.func13, Try.ntmps13
 go_upto_region 1 with (first | ((with_reducible refine gate_dst (N := 4) rfl ?_); (try (refine gate_guard (by rfl) ?_; dsimp only)); refine box_event ?hg (N := 4) ?hd (cs := #[.int .i64 a0_0, .int .i64 a0_1, .int .i64 a0_2, .int .i64 a0_3, .int .i64 a0_4, .int .i64 a0_5, .int .i64 a0_6, .int .i64 a0_7, .int .i64 a0_8, .int .i64 a0_9, .slice A0_10 l0_10.length c0_10]) (t := 24) ?hr ?_; (case hd => rfl); (case hg => rfl); (case hr => first | (go_simp; done) | (go_simp; rfl)); intro gb399 hg w6 hbox hb; have n0_ := Sd.mk (below_step bel_ hb); have n1_ := Sd.mk (hbox); have n2_ := Sd.mk ((by rw [hg]; exact (below_size bel_) : w.heap.size ≤ gb399)); have n3_ := Sd.mk ((by rw [hg]; exact (below_size bel_) : w.heap.size ≤ gb399)); clear HB; have HB := n0_; have BK399 := n1_; have GW399 := n2_; have GE399 := n3_; clear n0_ n1_ n2_ n3_; clear hb hbox hg))
 (try simp only [Act.put, List.setIfInBounds_toArray, List.set_cons_zero, List.set_cons_succ])
 go_cut [26] (fun v26 wc => ∃ (kq : Nat) (x26_4 : Bool), v26 = .bool x26_4 ∧ Sd (l18BeatRegular.j0 kq a1 a2 a3 x26_4 a0_0 a0_1 a0_2 a0_3 a0_4 a0_5 a0_6 a0_7 a0_8 a0_9 l0_10 = some r) ∧ Sd (kq ≤ k) ∧ Sd (wc.heap[gb399]? = some (.cells #[.int .i64 a0_0, .int .i64 a0_1, .int .i64 a0_2, .int .i64 a0_3, .int .i64 a0_4, .int .i64 a0_5, .int .i64 a0_6, .int .i64 a0_7, .int .i64 a0_8, .int .i64 a0_9, (.slice A0_10 l0_10.length c0_10)] 24 (0, 0))) ∧ Sd (Below w.heap.size w wc))
 case first =>
  have H := HC5.out
  clear HC5
  replace H := Option.bind_eq_some_iff.mp H
  obtain ⟨t400, A70, H⟩ := H
  replace H : (if t400 = 0 then (if a3 < 0 then (l18BeatRegular.j0 k a1 a2 a3 true a0_0 a0_1 a0_2 a0_3 a0_4 a0_5 a0_6 a0_7 a0_8 a0_9 l0_10) else (if a3 > 300 then (l18BeatRegular.j0 k a1 a2 a3 true a0_0 a0_1 a0_2 a0_3 a0_4 a0_5 a0_6 a0_7 a0_8 a0_9 l0_10) else (l18BeatRegular.j0 k a1 a2 a3 (decide ((a2.size : Int) > 200)) a0_0 a0_1 a0_2 a0_3 a0_4 a0_5 a0_6 a0_7 a0_8 a0_9 l0_10))) else (l18BeatRegular.j0 k a1 a2 a3 true a0_0 a0_1 a0_2 a0_3 a0_4 a0_5 a0_6 a0_7 a0_8 a0_9 l0_10)) = some r := H
  have A7 := Sd.mk A70
  clear A70
  by_cases c8 : t400 = 0
  ·
   rw [if_pos c8] at H
   have c8b0 : (t400 == 0) = true := beq_iff_eq.mpr c8
   have c8b1 : (t400 != 0) = false := bne_eq_false_iff_eq.mpr c8
   clear c8
   (first | rw [c8b0] | (simp only [i64_w, i32_w]; rw [c8b0]) | skip)
   (try rw [c8b1])
   by_cases c9 : a3 < 0
   ·
    rw [if_pos c9] at H
    have c9b0 : decide (a3 < 0) = true := decide_eq_true c9
    clear c9
    have H' := Sd.mk H
    clear H
    obtain ⟨z10_0, z10_1, z10_2, z10_3, z10_4, z10_5, z10_6, z10_7, z10_8, z10_9, z10_10, j10_0, j10_1, j10_2, j10_3, j10_4, j10_5, j10_6, j10_7, j10_8, j10_9, j10_10⟩ := cells11 BK399.out
    go_wp2_with (first | ((with_reducible refine gate_callee (f := 22) rfl ?_); refine goesL_ (some 12) rfl rfl Try.func22 (by kernel_rfl) rfl #[.agg #[.int .i64 a0_0, .int .i64 a0_1, .int .i64 a0_2, .int .i64 a0_3, .int .i64 a0_4, .int .i64 a0_5, .int .i64 a0_6, .int .i64 a0_7, .int .i64 a0_8, .int .i64 a0_9, .slice A0_10 l0_10.length c0_10]] rfl (by (try simp only [List.map_toArray, List.map_cons, List.map_nil]); first | done | rfl | (simp only [List.length_drop, List.length_take]; rfl)) ?_; (with_reducible refine (r03Plain.calls k a0_0 a0_1 a0_2 a0_3 a0_4 a0_5 a0_6 a0_7 a0_8 a0_9 _ _ l0_10 t400 _ ?side1 ?side2 A7.out).mono ?_); (case side1 => repeat (first | exact (Kd.C_below HR0_10.out HB.out) | (with_reducible refine Kd.C_alloc ?_ _) | (with_reducible refine Kd.C_drewN ?_ _) | (with_reducible refine Kd.C_drew ?_))); (case side2 => exact HC0_10.out); rintro e w11 ⟨rfl, hb⟩; refine ⟨_, rfl, ?_⟩; have n0_ := Sd.mk (blk_below (g := gb399) blk_ hb); have n1_ := Sd.mk (below_step bel_ hb); clear BK399; clear HB; have BK399 := n0_; have HB := n1_; clear n0_ n1_; (try clear hb); (try clear hb2); (try clear hk); (try clear hi)))
    go_meet
    case rel => exact ⟨_, (true), (by first | rfl | (simp; done) | (simp [*]; done)), H', ⟨by first | omega | exact Nat.le_refl _⟩, ⟨blk_⟩, ⟨bel_⟩⟩
   ·
    rw [if_neg c9] at H
    have c9b0 : decide (a3 < 0) = false := decide_eq_false c9
    clear c9
    by_cases c12 : a3 > 300
    ·
     rw [if_pos c12] at H
     have c12b0 : decide (300 < a3) = true := decide_eq_true c12
     clear c12
     have H' := Sd.mk H
     clear H
     obtain ⟨z13_0, z13_1, z13_2, z13_3, z13_4, z13_5, z13_6, z13_7, z13_8, z13_9, z13_10, j13_0, j13_1, j13_2, j13_3, j13_4, j13_5, j13_6, j13_7, j13_8, j13_9, j13_10⟩ := cells11 BK399.out
     go_wp2_with (first | ((with_reducible refine gate_callee (f := 22) rfl ?_); refine goesL_ (some 12) rfl rfl Try.func22 (by kernel_rfl) rfl #[.agg #[.int .i64 a0_0, .int .i64 a0_1, .int .i64 a0_2, .int .i64 a0_3, .int .i64 a0_4, .int .i64 a0_5, .int .i64 a0_6, .int .i64 a0_7, .int .i64 a0_8, .int .i64 a0_9, .slice A0_10 l0_10.length c0_10]] rfl (by (try simp only [List.map_toArray, List.map_cons, List.map_nil]); first | done | rfl | (simp only [List.length_drop, List.length_take]; rfl)) ?_; (with_reducible refine (r03Plain.calls k a0_0 a0_1 a0_2 a0_3 a0_4 a0_5 a0_6 a0_7 a0_8 a0_9 _ _ l0_10 t400 _ ?side1 ?side2 A7.out).mono ?_); (case side1 => repeat (first | exact (Kd.C_below HR0_10.out HB.out) | (with_reducible refine Kd.C_alloc ?_ _) | (with_reducible refine Kd.C_drewN ?_ _) | (with_reducible refine Kd.C_drew ?_))); (case side2 => exact HC0_10.out); rintro e w14 ⟨rfl, hb⟩; refine ⟨_, rfl, ?_⟩; have n0_ := Sd.mk (blk_below (g := gb399) blk_ hb); have n1_ := Sd.mk (below_step bel_ hb); clear BK399; clear HB; have BK399 := n0_; have HB := n1_; clear n0_ n1_; (try clear hb); (try clear hb2); (try clear hk); (try clear hi)))
     go_meet
     case rel => exact ⟨_, (true), (by first | rfl | (simp; done) | (simp [*]; done)), H', ⟨by first | omega | exact Nat.le_refl _⟩, ⟨blk_⟩, ⟨bel_⟩⟩
    ·
     rw [if_neg c12] at H
     have c12b0 : decide (300 < a3) = false := decide_eq_false c12
     clear c12
     have H' := Sd.mk H
     clear H
     obtain ⟨z15_0, z15_1, z15_2, z15_3, z15_4, z15_5, z15_6, z15_7, z15_8, z15_9, z15_10, j15_0, j15_1, j15_2, j15_3, j15_4, j15_5, j15_6, j15_7, j15_8, j15_9, j15_10⟩ := cells11 BK399.out
     go_wp2_with (first | ((with_reducible refine gate_callee (f := 22) rfl ?_); refine goesL_ (some 12) rfl rfl Try.func22 (by kernel_rfl) rfl #[.agg #[.int .i64 a0_0, .int .i64 a0_1, .int .i64 a0_2, .int .i64 a0_3, .int .i64 a0_4, .int .i64 a0_5, .int .i64 a0_6, .int .i64 a0_7, .int .i64 a0_8, .int .i64 a0_9, .slice A0_10 l0_10.length c0_10]] rfl (by (try simp only [List.map_toArray, List.map_cons, List.map_nil]); first | done | rfl | (simp only [List.length_drop, List.length_take]; rfl)) ?_; (with_reducible refine (r03Plain.calls k a0_0 a0_1 a0_2 a0_3 a0_4 a0_5 a0_6 a0_7 a0_8 a0_9 _ _ l0_10 t400 _ ?side1 ?side2 A7.out).mono ?_); (case side1 => repeat (first | exact (Kd.C_below HR0_10.out HB.out) | (with_reducible refine Kd.C_alloc ?_ _) | (with_reducible refine Kd.C_drewN ?_ _) | (with_reducible refine Kd.C_drew ?_))); (case side2 => exact HC0_10.out); rintro e w16 ⟨rfl, hb⟩; refine ⟨_, rfl, ?_⟩; have n0_ := Sd.mk (blk_below (g := gb399) blk_ hb); have n1_ := Sd.mk (below_step bel_ hb); clear BK399; clear HB; have BK399 := n0_; have HB := n1_; clear n0_ n1_; (try clear hb); (try clear hb2); (try clear hk); (try clear hi)))
     go_meet
     case rel => exact ⟨_, (decide ((a2.size : Int) > 200)), (by first | rfl | (simp; done) | (simp [*]; done)), H', ⟨by first | omega | exact Nat.le_refl _⟩, ⟨blk_⟩, ⟨bel_⟩⟩
  ·
   rw [if_neg c8] at H
   have c8b0 : (t400 == 0) = false := beq_eq_false_iff_ne.mpr c8
   have c8b1 : (t400 != 0) = true := bne_iff_ne.mpr c8
   (first | rw [c8b0] | (simp only [i64_w, i32_w]; rw [c8b0]) | skip)
   (try rw [c8b1])
   have H' := Sd.mk H
   clear H
   obtain ⟨z17_0, z17_1, z17_2, z17_3, z17_4, z17_5, z17_6, z17_7, z17_8, z17_9, z17_10, j17_0, j17_1, j17_2, j17_3, j17_4, j17_5, j17_6, j17_7, j17_8, j17_9, j17_10⟩ := cells11 BK399.out
   go_wp2_with (first | ((with_reducible refine gate_callee (f := 22) rfl ?_); refine goesL_ (some 12) rfl rfl Try.func22 (by kernel_rfl) rfl #[.agg #[.int .i64 a0_0, .int .i64 a0_1, .int .i64 a0_2, .int .i64 a0_3, .int .i64 a0_4, .int .i64 a0_5, .int .i64 a0_6, .int .i64 a0_7, .int .i64 a0_8, .int .i64 a0_9, .slice A0_10 l0_10.length c0_10]] rfl (by (try simp only [List.map_toArray, List.map_cons, List.map_nil]); first | done | rfl | (simp only [List.length_drop, List.length_take]; rfl)) ?_; (with_reducible refine (r03Plain.calls k a0_0 a0_1 a0_2 a0_3 a0_4 a0_5 a0_6 a0_7 a0_8 a0_9 _ _ l0_10 t400 _ ?side1 ?side2 A7.out).mono ?_); (case side1 => repeat (first | exact (Kd.C_below HR0_10.out HB.out) | (with_reducible refine Kd.C_alloc ?_ _) | (with_reducible refine Kd.C_drewN ?_ _) | (with_reducible refine Kd.C_drew ?_))); (case side2 => exact HC0_10.out); rintro e w18 ⟨rfl, hb⟩; refine ⟨_, rfl, ?_⟩; have n0_ := Sd.mk (blk_below (g := gb399) blk_ hb); have n1_ := Sd.mk (below_step bel_ hb); clear BK399; clear HB; have BK399 := n0_; have HB := n1_; clear n0_ n1_; (try clear hb); (try clear hb2); (try clear hk); (try clear hi)))
   go_meet
   case rel => exact ⟨_, (true), (by first | rfl | (simp; done) | (simp [*]; done)), H', ⟨by first | omega | exact Nat.le_refl _⟩, ⟨blk_⟩, ⟨bel_⟩⟩
 case rest =>
  clear HC5
  try clear c1
  try clear c2
  try clear p2
  try clear c8
  try clear c8b0
  try clear c8b1
  try clear c9
  try clear c9b0
  try clear c12
  try clear c12b0
  try clear c13
  try clear z10_0 z10_1 z10_10 z10_2 z10_3 z10_4 z10_5 z10_6 z10_7 z10_8 z10_9
  try clear z13_0 z13_1 z13_10 z13_2 z13_3 z13_4 z13_5 z13_6 z13_7 z13_8 z13_9
  try clear z15_0 z15_1 z15_10 z15_2 z15_3 z15_4 z15_5 z15_6 z15_7 z15_8 z15_9
  try clear z17_0 z17_1 z17_10 z17_2 z17_3 z17_4 z17_5 z17_6 z17_7 z17_8 z17_9
  try clear j10_0 j10_1 j10_10 j10_2 j10_3 j10_4 j10_5 j10_6 j10_7 j10_8 j10_9
  try clear j13_0 j13_1 j13_10 j13_2 j13_3 j13_4 j13_5 j13_6 j13_7 j13_8 j13_9
  try clear j15_0 j15_1 j15_10 j15_2 j15_3 j15_4 j15_5 j15_6 j15_7 j15_8 j15_9
  try clear j17_0 j17_1 j17_10 j17_2 j17_3 j17_4 j17_5 j17_6 j17_7 j17_8 j17_9
  obtain ⟨kq, x26_4, rfl, HA, HJ4, BK399, HB⟩ := hcut
  cases kq with
  | zero => exact absurd HA.out (by simp [l18BeatRegular.j0])
  | succ kj4 =>
   have H := HA.out
   clear HA
   simp only [l18BeatRegular.j0] at H
   by_cases c19 : x26_4 = true
   ·
    subst c19
    have H1 : ((l18known.f kj4).bind fun t401 => (some t401)) = some r := by rw [if_pos rfl] at H; exact H
    clear H
    have H := H1
    clear H1
    replace H := Option.bind_eq_some_iff.mp H
    obtain ⟨t401, A200, H⟩ := H
    replace H : (some t401) = some r := H
    have A20 := Sd.mk A200
    clear A200
    obtain rfl := Option.some.inj H
    go_wp2_with (first | ((with_reducible refine gate_callee (f := 46) rfl ?_); refine goesL_ (some 27) rfl rfl Try.func46 (by kernel_rfl) rfl #[] rfl (by (try simp only [List.map_toArray, List.map_cons, List.map_nil]); first | done | rfl | (simp only [List.length_drop, List.length_take]; rfl)) ?_; (with_reducible refine (l18known.calls kj4  t401 _ A20.out).mono ?_); rintro e w21 ⟨rfl, hb⟩; refine ⟨_, rfl, ?_⟩; have n0_ := Sd.mk (blk_below (g := gb399) blk_ hb); have n1_ := Sd.mk (below_step bel_ hb); clear BK399; clear HB; have BK399 := n0_; have HB := n1_; clear n0_ n1_; (try clear hb); (try clear hb2); (try clear hk); (try clear hi)))
    go_ret
    exact ⟨by first | rfl | (simp [errW_none, errW_some] <;> rfl) | (simp [*, errW_none, errW_some] <;> rfl), bel_⟩
   ·
    replace c19 := Bool.eq_false_iff.mpr c19
    subst c19
    have H1 : ((r03Length.f kj4 a0_0 a0_1 a0_2 a0_3 a0_4 a0_5 a0_6 a0_7 a0_8 a0_9 l0_10).bind fun t402 => ((beat_Alone.f kj4 a0_0 a0_1 a0_2 a0_3 a0_4 a0_5 a0_6 a0_7 a0_8 a0_9 l0_10 a1 a2 (wrap64 ((wrap64 (a0_3 + (wrap64 (2 * t402)))) + a3))).bind fun t403 => (if (t403.size : Int) = (wrap64 ((wrap64 (a0_3 + (wrap64 (2 * t402)))) + a3)) then ((l18regular.f kj4 a0_0 a0_1 a0_2 a0_3 a0_4 a0_5 a0_6 a0_7 a0_8 a0_9 l0_10 t403 (wrap64 (a0_3 + (wrap64 (2 * t402))))).bind fun t404 => (if t404 = true then ((l18known.f kj4).bind fun t405 => (some t405)) else (some false))) else (some false)))) = some r := by rw [if_neg (show ¬ (false = true) by decide)] at H; exact H
    clear H
    have H := H1
    clear H1
    replace H := Option.bind_eq_some_iff.mp H
    obtain ⟨t402, A220, H⟩ := H
    replace H : ((beat_Alone.f kj4 a0_0 a0_1 a0_2 a0_3 a0_4 a0_5 a0_6 a0_7 a0_8 a0_9 l0_10 a1 a2 (wrap64 ((wrap64 (a0_3 + (wrap64 (2 * t402)))) + a3))).bind fun t403 => (if (t403.size : Int) = (wrap64 ((wrap64 (a0_3 + (wrap64 (2 * t402)))) + a3)) then ((l18regular.f kj4 a0_0 a0_1 a0_2 a0_3 a0_4 a0_5 a0_6 a0_7 a0_8 a0_9 l0_10 t403 (wrap64 (a0_3 + (wrap64 (2 * t402))))).bind fun t404 => (if t404 = true then ((l18known.f kj4).bind fun t405 => (some t405)) else (some false))) else (some false))) = some r := H
    have A22 := Sd.mk A220
    clear A220
    replace H := Option.bind_eq_some_iff.mp H
    obtain ⟨t403, A230, H⟩ := H
    replace H : (if (t403.size : Int) = (wrap64 ((wrap64 (a0_3 + (wrap64 (2 * t402)))) + a3)) then ((l18regular.f kj4 a0_0 a0_1 a0_2 a0_3 a0_4 a0_5 a0_6 a0_7 a0_8 a0_9 l0_10 t403 (wrap64 (a0_3 + (wrap64 (2 * t402))))).bind fun t404 => (if t404 = true then ((l18known.f kj4).bind fun t405 => (some t405)) else (some false))) else (some false)) = some r := H
    have A23 := Sd.mk A230
    clear A230
    by_cases c24 : (t403.size : Int) = (wrap64 ((wrap64 (a0_3 + (wrap64 (2 * t402)))) + a3))
    ·
     rw [if_pos c24] at H
     have c24b0 : ((t403.size : Int) == (wrap64 ((wrap64 (a0_3 + (wrap64 (2 * t402)))) + a3))) = true := beq_iff_eq.mpr c24
     have c24b1 : ((t403.size : Int) != (wrap64 ((wrap64 (a0_3 + (wrap64 (2 * t402)))) + a3))) = false := bne_eq_false_iff_eq.mpr c24
     clear c24
     replace H := Option.bind_eq_some_iff.mp H
     obtain ⟨t404, A250, H⟩ := H
     replace H : (if t404 = true then ((l18known.f kj4).bind fun t405 => (some t405)) else (some false)) = some r := H
     have A25 := Sd.mk A250
     clear A250
     by_cases c26 : t404 = true
     ·
      subst c26
      have H1 : ((l18known.f kj4).bind fun t405 => (some t405)) = some r := by rw [if_pos rfl] at H; exact H
      clear H
      have H := H1
      clear H1
      replace H := Option.bind_eq_some_iff.mp H
      obtain ⟨t405, A270, H⟩ := H
      replace H : (some t405) = some r := H
      have A27 := Sd.mk A270
      clear A270
      obtain rfl := Option.some.inj H
      try go_wp2
      have n0_ := Sd.mk (blk_drew BK399.out)
      have n1_ := Sd.mk (below_drew1 HB.out)
      clear BK399
      clear HB
      have BK399 := n0_
      have HB := n1_
      clear n0_ n1_
      refine start_ (n := 7) (S := fun w' => w'.cell? ⟨gb399, 0, none⟩ = some (.int .i64 a0_0) ∧ w'.cell? ⟨gb399, 1, none⟩ = some (.int .i64 a0_1) ∧ w'.cell? ⟨gb399, 2, none⟩ = some (.int .i64 a0_2) ∧ w'.cell? ⟨gb399, 3, none⟩ = some (.int .i64 a0_3) ∧ w'.cell? ⟨gb399, 4, none⟩ = some (.int .i64 a0_4) ∧ w'.cell? ⟨gb399, 5, none⟩ = some (.int .i64 a0_5) ∧ w'.cell? ⟨gb399, 6, none⟩ = some (.int .i64 a0_6) ∧ w'.cell? ⟨gb399, 7, none⟩ = some (.int .i64 a0_7) ∧ w'.cell? ⟨gb399, 8, none⟩ = some (.int .i64 a0_8) ∧ w'.cell? ⟨gb399, 9, none⟩ = some (.int .i64 a0_9) ∧ w'.cell? ⟨gb399, 10, none⟩ = some (.slice A0_10 l0_10.length c0_10)) (ds := []) #[false,false,false,false,false,false,false] (by kernel_rfl) rfl rfl ⟨(blk_cell BK399.out 0).trans rfl, (blk_cell BK399.out 1).trans rfl, (blk_cell BK399.out 2).trans rfl, (blk_cell BK399.out 3).trans rfl, (blk_cell BK399.out 4).trans rfl, (blk_cell BK399.out 5).trans rfl, (blk_cell BK399.out 6).trans rfl, (blk_cell BK399.out 7).trans rfl, (blk_cell BK399.out 8).trans rfl, (blk_cell BK399.out 9).trans rfl, (blk_cell BK399.out 10).trans rfl⟩ (fun hHeld => ?_)
      generalize wc.drew = w28 at BK399 HB hHeld ⊢
      refine pure_ (i := 0) (N := some 28) (v := ?_) (a' := ?_) #[true,false,false,false,false,false,false] rfl rfl (by kernel_rfl) (fun _ _ _ h => h) (Or.inl ⟨by rfl, ?_⟩) ?_ ?_
      rotate_left
      ·
       intro w'
       go_simp
       with_reducible rfl
      rotate_left
      ·
       simp only [Act.put, List.setIfInBounds_toArray, List.set_cons_zero, List.set_cons_succ, i64_w, i32_w]
       rfl
      refine take_ (i := 1) (N := some 29) (v := ?_) (a' := ?_) #[true,true,false,false,false,false,false] rfl rfl (by kernel_rfl) (fun _ _ _ h => h) (Or.inl ⟨by rfl, ?_⟩) hHeld ?_ ?_
      rotate_left
      ·
       rintro w' ⟨s0, s1, s2, s3, s4, s5, s6, s7, s8, s9, s10⟩
       go_simp
       with_reducible rfl
      rotate_left
      ·
       simp only [Act.put, List.setIfInBounds_toArray, List.set_cons_zero, List.set_cons_succ, i64_w, i32_w]
       rfl
      refine take_ (i := 2) (N := some 30) (v := ?_) (a' := ?_) #[true,true,true,false,false,false,false] rfl rfl (by kernel_rfl) (fun _ _ _ h => h) (Or.inl ⟨by rfl, ?_⟩) hHeld ?_ ?_
      rotate_left
      ·
       rintro w' ⟨s0, s1, s2, s3, s4, s5, s6, s7, s8, s9, s10⟩
       go_simp
       with_reducible rfl
      rotate_left
      ·
       simp only [Act.put, List.setIfInBounds_toArray, List.set_cons_zero, List.set_cons_succ, i64_w, i32_w]
       rfl
      refine one_ (i := 3) (N := some 31) #[true,true,true,true,false,false,false] rfl rfl (by kernel_rfl) (by decide) (fun K hK => ?_)
      refine goes_ Try.func37 (by kernel_rfl) rfl #[.agg #[.int .i64 a0_0, .int .i64 a0_1, .int .i64 a0_2, .int .i64 a0_3, .int .i64 a0_4, .int .i64 a0_5, .int .i64 a0_6, .int .i64 a0_7, .int .i64 a0_8, .int .i64 a0_9, .slice A0_10 l0_10.length c0_10]] (by rfl) rfl rfl (by (try simp only [List.map_toArray, List.map_cons, List.map_nil]); first | done | rfl | (simp only [List.length_drop, List.length_take]; rfl)) ?_
      with_reducible refine (r03Length.calls kj4 a0_0 a0_1 a0_2 a0_3 a0_4 a0_5 a0_6 a0_7 a0_8 a0_9 _ _ l0_10 t402 _ ?side1 ?side2 A22.out).mono ?_
      (case side1 => repeat (first | exact (Kd.C_below HR0_10.out HB.out) | (with_reducible refine Kd.C_alloc ?_ _) | (with_reducible refine Kd.C_drewN ?_ _) | (with_reducible refine Kd.C_drew ?_)))
      (case side2 => exact HC0_10.out)
      rintro e w29 ⟨rfl, hb⟩
      refine ⟨_, rfl, ?_⟩
      have n0_ := Sd.mk (blk_below (g := gb399) blk_ hb)
      have n1_ := Sd.mk (below_step bel_ hb)
      clear BK399
      clear HB
      have BK399 := n0_
      have HB := n1_
      clear n0_ n1_
      (try clear hb)
      (try clear hb2)
      (try clear hk)
      (try clear hi)
      refine hK.out _ _ ⟨(blk_cell BK399.out 0).trans rfl, (blk_cell BK399.out 1).trans rfl, (blk_cell BK399.out 2).trans rfl, (blk_cell BK399.out 3).trans rfl, (blk_cell BK399.out 4).trans rfl, (blk_cell BK399.out 5).trans rfl, (blk_cell BK399.out 6).trans rfl, (blk_cell BK399.out 7).trans rfl, (blk_cell BK399.out 8).trans rfl, (blk_cell BK399.out 9).trans rfl, (blk_cell BK399.out 10).trans rfl⟩ (fun hHeld => ?_)
      clear hK K
      refine norm_ (a' := ?_) ?_ ?_
      rotate_left
      ·
       show Act.put _ (some 31) _ = _
       simp only [Act.put, List.setIfInBounds_toArray, List.set_cons_zero, List.set_cons_succ, i64_w, i32_w]
       rfl
      refine pure_ (i := 4) (N := some 32) (v := ?_) (a' := ?_) #[true,true,true,true,true,false,false] rfl rfl (by kernel_rfl) (fun _ _ _ h => h) (Or.inl ⟨by rfl, ?_⟩) ?_ ?_
      rotate_left
      ·
       intro w'
       go_simp
       with_reducible rfl
      rotate_left
      ·
       simp only [Act.put, List.setIfInBounds_toArray, List.set_cons_zero, List.set_cons_succ, i64_w, i32_w]
       rfl
      refine pure_ (i := 5) (N := some 33) (v := ?_) (a' := ?_) #[true,true,true,true,true,true,false] rfl rfl (by kernel_rfl) (fun _ _ _ h => h) (Or.inl ⟨by rfl, ?_⟩) ?_ ?_
      rotate_left
      ·
       intro w'
       go_simp
       with_reducible rfl
      rotate_left
      ·
       simp only [Act.put, List.setIfInBounds_toArray, List.set_cons_zero, List.set_cons_succ, i64_w, i32_w]
       rfl
      refine pure_ (i := 6) (N := some 9) (v := ?_) (a' := ?_) #[true,true,true,true,true,true,true] rfl rfl (by kernel_rfl) (fun _ _ _ h => h) (Or.inl ⟨by rfl, ?_⟩) ?_ ?_
      rotate_left
      ·
       intro w'
       go_simp
       with_reducible rfl
      rotate_left
      ·
       simp only [Act.put, List.setIfInBounds_toArray, List.set_cons_zero, List.set_cons_succ, i64_w, i32_w]
       rfl
      refine done_ (by kernel_rfl) ?_
      obtain ⟨z30_0, z30_1, z30_2, z30_3, z30_4, z30_5, z30_6, z30_7, z30_8, z30_9, z30_10, j30_0, j30_1, j30_2, j30_3, j30_4, j30_5, j30_6, j30_7, j30_8, j30_9, j30_10⟩ := cells11 BK399.out
      try go_wp2_with (first | ((with_reducible refine gate_callee (f := 49) rfl ?_); refine goesL_ (some 40) rfl rfl Try.func49 (by kernel_rfl) rfl #[.agg #[.int .i64 a0_0, .int .i64 a0_1, .int .i64 a0_2, .int .i64 a0_3, .int .i64 a0_4, .int .i64 a0_5, .int .i64 a0_6, .int .i64 a0_7, .int .i64 a0_8, .int .i64 a0_9, .slice A0_10 l0_10.length c0_10], .int .i64 a1, .string a2, .int .i64 (wrap64 ((wrap64 (a0_3 + (wrap64 (2 * t402)))) + a3))] rfl (by (try simp only [List.map_toArray, List.map_cons, List.map_nil]); first | done | rfl | (simp only [List.length_drop, List.length_take]; rfl)) ?_; (with_reducible refine (beat_Alone.calls kj4 a0_0 a0_1 a0_2 a0_3 a0_4 a0_5 a0_6 a0_7 a0_8 a0_9 _ _ l0_10 a1 a2 (wrap64 ((wrap64 (a0_3 + (wrap64 (2 * t402)))) + a3)) t403 _ ?side1 ?side2 A23.out).mono ?_); (case side1 => repeat (first | exact (Kd.C_below HR0_10.out HB.out) | (with_reducible refine Kd.C_alloc ?_ _) | (with_reducible refine Kd.C_drewN ?_ _) | (with_reducible refine Kd.C_drew ?_))); (case side2 => exact HC0_10.out); rintro e w31 ⟨rfl, hb⟩; refine ⟨_, rfl, ?_⟩; have n0_ := Sd.mk (blk_below (g := gb399) blk_ hb); have n1_ := Sd.mk (below_step bel_ hb); clear BK399; clear HB; have BK399 := n0_; have HB := n1_; clear n0_ n1_; (try clear hb); (try clear hb2); (try clear hk); (try clear hi); obtain ⟨z32_0, z32_1, z32_2, z32_3, z32_4, z32_5, z32_6, z32_7, z32_8, z32_9, z32_10, j32_0, j32_1, j32_2, j32_3, j32_4, j32_5, j32_6, j32_7, j32_8, j32_9, j32_10⟩ := cells11 BK399.out) | (go_at_call 51; (with_reducible refine (l18regular.calls kj4 a0_0 a0_1 a0_2 a0_3 a0_4 a0_5 a0_6 a0_7 a0_8 a0_9 _ _ l0_10 t403 (wrap64 (a0_3 + (wrap64 (2 * t402)))) true _ ?side1 ?side2 A25.out).mono ?_); (case side1 => repeat (first | exact (Kd.C_below HR0_10.out HB.out) | (with_reducible refine Kd.C_alloc ?_ _) | (with_reducible refine Kd.C_drewN ?_ _) | (with_reducible refine Kd.C_drew ?_))); (case side2 => exact HC0_10.out); rintro e w33 ⟨rfl, hb⟩; have n0_ := Sd.mk (blk_below (g := gb399) blk_ hb); have n1_ := Sd.mk (below_step bel_ hb); clear BK399; clear HB; have BK399 := n0_; have HB := n1_; clear n0_ n1_; (try clear hb); (try clear hb2); (try clear hk); (try clear hi)) | (go_at_call 46; (with_reducible refine (l18known.calls kj4  t405 _ A27.out).mono ?_); rintro e w34 ⟨rfl, hb⟩; have n0_ := Sd.mk (blk_below (g := gb399) blk_ hb); have n1_ := Sd.mk (below_step bel_ hb); clear BK399; clear HB; have BK399 := n0_; have HB := n1_; clear n0_ n1_; (try clear hb); (try clear hb2); (try clear hk); (try clear hi)))
      go_ret
      exact ⟨by first | rfl | (simp [errW_none, errW_some] <;> rfl) | (simp [*, errW_none, errW_some] <;> rfl), bel_⟩
     ·
      replace c26 := Bool.eq_false_iff.mpr c26
      subst c26
      have H1 : (some false) = some r := by rw [if_neg (show ¬ (false = true) by decide)] at H; exact H
      clear H
      have H := H1
      clear H1
      (have H3_ := Option.some.inj H; have H4_ := hT.out; rw [← H3_] at H4_; exact absurd H4_ (by decide))
    ·
     rw [if_neg c24] at H
     have c24b0 : ((t403.size : Int) == (wrap64 ((wrap64 (a0_3 + (wrap64 (2 * t402)))) + a3))) = false := beq_eq_false_iff_ne.mpr c24
     have c24b1 : ((t403.size : Int) != (wrap64 ((wrap64 (a0_3 + (wrap64 (2 * t402)))) + a3))) = true := bne_iff_ne.mpr c24
     (have H3_ := Option.some.inj H; have H4_ := hT.out; rw [← H3_] at H4_; exact absurd H4_ (by decide))
end Go.Proofs.Ythblnnboeikgcaa.B
