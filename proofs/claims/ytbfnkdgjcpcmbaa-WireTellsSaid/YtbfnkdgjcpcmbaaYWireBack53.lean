import Derived.Test.YtbfnkdgjcpcmbaaYWireBack33
set_option maxHeartbeats 8000000
set_option maxRecDepth 100000
namespace Go.Proofs.Ytbfnkdgjcpcmbaa.X
open Go.RowKit Go.Proofs.YtbfnkdgjcpcmbaaW.PrintWords Go.Proofs.YtbfnkdgjcpcmbaaW.PrintLast Go.Proofs.YtbfnkdgjcpcmbaaW.PrintMore
attribute [local go_sem] max2_int min2_int max_two min_two max_three min_three max_four min_four   -- for this text's walks alone
set_option linter.unusedVariables false
set_option linter.unusedSimpArgs false
def l11WireTells.j0 : Nat → Int → Int → ByteArray → Bool → Int → Int → Int → Int → Int → Int → Int → Int → Int → Int → List Int → Option (Bool)
 | 0, _, _, _, _, _, _, _, _, _, _, _, _, _, _, _ => none
 | k + 1, x2, x3, x9, x37, v00, v01, v02, v03, v04, v05, v06, v07, v08, v09, v10 => if x37 = true then ((l11known.f k).bind fun t381 => (some t381)) else (if 0 ≤ x2 then (if x2 ≤ (x9.size : Int) then ((some (([x3] : List Int) : List Int)).bind fun y382 => (if (x2 : Int).toNat + (strOfNums y382).size ≤ 9223372036854775807 then (if 0 ≤ (wrap64 (x2 + 1)) then (if (wrap64 (x2 + 1)) ≤ (x9.size : Int) then (if ((x2 : Int).toNat + (strOfNums y382).size) + (x9.size - ((wrap64 (x2 + 1)) : Int).toNat) ≤ 9223372036854775807 then ((wire_Decode.f k v00 v01 v02 v03 v04 v05 v06 v07 v08 v09 v10 (((x9.extract 0 (x2 : Int).toNat) ++ (strOfNums y382)) ++ (x9.extract ((wrap64 (x2 + 1)) : Int).toNat x9.size))).bind fun bt385 => (if bt385.2.2.2.2.2.2 = 4 then ((l11known.f k).bind fun t393 => (some t393)) else (some false))) else (none)) else (none)) else (none)) else (none))) else (none)) else (none))
def l11WireTells.f (k : Nat) (a0_0 : Int) (a0_1 : Int) (a0_2 : Int) (a0_3 : Int) (a0_4 : Int) (a0_5 : Int) (a0_6 : Int) (a0_7 : Int) (a0_8 : Int) (a0_9 : Int) (l0_10 : List Int) (a1_0 : ByteArray) (a1_1 : Int) (a1_2 : ByteArray) (a1_3 : Int) (a1_4 : Int) (a1_5 : ByteArray) (a2 : Int) (a3 : Int) : Option (Bool) := (wire_Encode.f k a0_0 a0_1 a0_2 a0_3 a0_4 a0_5 a0_6 a0_7 a0_8 a0_9 l0_10 a1_0 a1_1 a1_2 a1_3 a1_4 a1_5).bind fun bt379 => (if bt379.2 = 0 then (if a2 < 0 then (l11WireTells.j0 k a2 a3 bt379.1 true a0_0 a0_1 a0_2 a0_3 a0_4 a0_5 a0_6 a0_7 a0_8 a0_9 l0_10) else (if a2 ≥ (bt379.1.size : Int) then (l11WireTells.j0 k a2 a3 bt379.1 true a0_0 a0_1 a0_2 a0_3 a0_4 a0_5 a0_6 a0_7 a0_8 a0_9 l0_10) else (if 0 ≤ a2 then (if a2 < (bt379.1.size : Int) then (l11WireTells.j0 k a2 a3 bt379.1 ((bt bt379.1 a2) == a3) a0_0 a0_1 a0_2 a0_3 a0_4 a0_5 a0_6 a0_7 a0_8 a0_9 l0_10) else (none)) else (none)))) else (l11WireTells.j0 k a2 a3 bt379.1 true a0_0 a0_1 a0_2 a0_3 a0_4 a0_5 a0_6 a0_7 a0_8 a0_9 l0_10))
def l11WireTells.T4 : Bool × List (List Nat × List Nat) := (true, [([], []), ([], []), ([], []), ([1, 2], [1, 2]), ([], []), ([4], [4]), ([5], [5]), ([3, 6], [3, 6]), ([], []), ([], []), ([9], [9]), ([8, 10], [8, 10]), ([7, 11], [7, 11]), ([0, 12], [0, 12]), ([13], [13]), ([14], [14]), ([14], [14]), ([], []), ([17, 15, 13, 0, 1, 2, 3, 4, 5, 6, 7, 8, 9, 10, 11, 12, 13, 14, 15, 17], [15, 17]), ([16, 18, 0, 1, 2, 3, 4, 5, 6, 7, 8, 9, 10, 11, 12, 13, 14, 15, 16, 17, 18], [16])])
def l11WireTells.B4 : List Nat := [0, 0, 0, 6, 0, 16, 48, 126, 0, 0, 512, 1792, 4094, 8191, 16383, 32767, 32767, 0, 196607, 524287]
theorem l11WireTells.tab4 : rtab .any (opsOf Try.f11 4) = l11WireTells.T4 := by kernel_rfl
theorem l11WireTells.bits4 : waitsOk l11WireTells.T4.2 l11WireTells.B4 = true := by kernel_rfl
theorem l11WireTells.calls (k : Nat) (a0_0 : Int) (a0_1 : Int) (a0_2 : Int) (a0_3 : Int) (a0_4 : Int) (a0_5 : Int) (a0_6 : Int) (a0_7 : Int) (a0_8 : Int) (a0_9 : Int) (A0_10 : Option Addr) (c0_10 : Nat) (l0_10 : List Int) (a1_0 : ByteArray) (a1_1 : Int) (a1_2 : ByteArray) (a1_3 : Int) (a1_4 : Int) (a1_5 : ByteArray) (a2 : Int) (a3 : Int) (r : Bool) (w : World) (hr0_10 : Kd.C (Kd.int .i64) w A0_10 l0_10.length l0_10) (hc0_10 : l0_10.length ≤ c0_10) (h : l11WireTells.f k a0_0 a0_1 a0_2 a0_3 a0_4 a0_5 a0_6 a0_7 a0_8 a0_9 l0_10 a1_0 a1_1 a1_2 a1_3 a1_4 a1_5 a2 a3 = some r) (hT : Sd (r = true) := by first | exact ⟨rfl⟩ | assumption) :
  Calls Try.prog 11 #[.agg #[.int .i64 a0_0, .int .i64 a0_1, .int .i64 a0_2, .int .i64 a0_3, .int .i64 a0_4, .int .i64 a0_5, .int .i64 a0_6, .int .i64 a0_7, .int .i64 a0_8, .int .i64 a0_9, .slice A0_10 l0_10.length c0_10], .agg #[.string a1_0, .int .i64 a1_1, .string a1_2, .int .i64 a1_3, .int .i64 a1_4, .string a1_5], .int .i64 a2, .int .u8 a3] w fun e w' => e = .returned (.bool r) ∧ Below w.heap.size w w' := by
 have hu24 := Try.underlying24
 have hu26 := Try.underlying26
 have HR0_10 := Sd.mk hr0_10
 have HC0_10 := Sd.mk hc0_10
 clear hr0_10 hc0_10
 have HB := Sd.mk (Below.refl w.heap.size w)
 have H : ((wire_Encode.f k a0_0 a0_1 a0_2 a0_3 a0_4 a0_5 a0_6 a0_7 a0_8 a0_9 l0_10 a1_0 a1_1 a1_2 a1_3 a1_4 a1_5).bind fun bt379 => (if bt379.2 = 0 then (if a2 < 0 then (l11WireTells.j0 k a2 a3 bt379.1 true a0_0 a0_1 a0_2 a0_3 a0_4 a0_5 a0_6 a0_7 a0_8 a0_9 l0_10) else (if a2 ≥ (bt379.1.size : Int) then (l11WireTells.j0 k a2 a3 bt379.1 true a0_0 a0_1 a0_2 a0_3 a0_4 a0_5 a0_6 a0_7 a0_8 a0_9 l0_10) else (if 0 ≤ a2 then (if a2 < (bt379.1.size : Int) then (l11WireTells.j0 k a2 a3 bt379.1 ((bt bt379.1 a2) == a3) a0_0 a0_1 a0_2 a0_3 a0_4 a0_5 a0_6 a0_7 a0_8 a0_9 l0_10) else (none)) else (none)))) else (l11WireTells.j0 k a2 a3 bt379.1 true a0_0 a0_1 a0_2 a0_3 a0_4 a0_5 a0_6 a0_7 a0_8 a0_9 l0_10))) = some r := h
 clear h
 replace H := Option.bind_eq_some_iff.mp H
 obtain ⟨⟨t379, t380⟩, A50, H⟩ := H
 replace H : (if t380 = 0 then (if a2 < 0 then (l11WireTells.j0 k a2 a3 t379 true a0_0 a0_1 a0_2 a0_3 a0_4 a0_5 a0_6 a0_7 a0_8 a0_9 l0_10) else (if a2 ≥ (t379.size : Int) then (l11WireTells.j0 k a2 a3 t379 true a0_0 a0_1 a0_2 a0_3 a0_4 a0_5 a0_6 a0_7 a0_8 a0_9 l0_10) else (if 0 ≤ a2 then (if a2 < (t379.size : Int) then (l11WireTells.j0 k a2 a3 t379 ((bt t379 a2) == a3) a0_0 a0_1 a0_2 a0_3 a0_4 a0_5 a0_6 a0_7 a0_8 a0_9 l0_10) else (none)) else (none)))) else (l11WireTells.j0 k a2 a3 t379 true a0_0 a0_1 a0_2 a0_3 a0_4 a0_5 a0_6 a0_7 a0_8 a0_9 l0_10)) = some r := H
 have A5 := Sd.mk A50
 clear A50
 have HC6 := Sd.mk H
 clear H
 go_enter Try.func11, Try.ntmps11
 go_upto_region 2 with (first | ((with_reducible refine gate_dst (N := 4) rfl ?_); (try (refine gate_guard (by rfl) ?_; dsimp only)); refine box_event ?hg (N := 4) ?hd (cs := #[.int .i64 a0_0, .int .i64 a0_1, .int .i64 a0_2, .int .i64 a0_3, .int .i64 a0_4, .int .i64 a0_5, .int .i64 a0_6, .int .i64 a0_7, .int .i64 a0_8, .int .i64 a0_9, .slice A0_10 l0_10.length c0_10]) (t := 24) ?hr ?_; (case hd => rfl); (case hg => rfl); (case hr => first | (go_simp; done) | (go_simp; rfl)); intro gb377 hg w7 hbox hb; have n0_ := Sd.mk (below_step bel_ hb); have n1_ := Sd.mk (hbox); have n2_ := Sd.mk ((by rw [hg]; exact (below_size bel_) : w.heap.size ≤ gb377)); have n3_ := Sd.mk ((by rw [hg]; exact (below_size bel_) : w.heap.size ≤ gb377)); clear HB; have HB := n0_; have BK377 := n1_; have GW377 := n2_; have GE377 := n3_; clear n0_ n1_ n2_ n3_; clear hb hbox hg) | ((with_reducible refine gate_dst (N := 5) rfl ?_); (try (refine gate_guard (by rfl) ?_; dsimp only)); refine box_event ?hg (N := 5) ?hd (cs := #[.string a1_0, .int .i64 a1_1, .string a1_2, .int .i64 a1_3, .int .i64 a1_4, .string a1_5]) (t := 26) ?hr ?_; (case hd => rfl); (case hg => rfl); (case hr => first | (go_simp; done) | (go_simp; rfl)); intro gb378 hg w8 hbox hb; have n0_ := Sd.mk (blk_below (g := gb377) blk_ hb); have n1_ := Sd.mk (below_step bel_ hb); have n2_ := Sd.mk (hbox); have n3_ := Sd.mk ((by rw [hg]; exact (below_size bel_) : w.heap.size ≤ gb378)); have n4_ := Sd.mk ((by rw [hg]; exact (below_size bel_) : w.heap.size ≤ gb378)); have n5_ := Sd.mk ((by rw [hg]; exact Nat.ne_of_lt (blk_lt (g := gb377) (o := .cells #[.int .i64 a0_0, .int .i64 a0_1, .int .i64 a0_2, .int .i64 a0_3, .int .i64 a0_4, .int .i64 a0_5, .int .i64 a0_6, .int .i64 a0_7, .int .i64 a0_8, .int .i64 a0_9, .slice A0_10 l0_10.length c0_10] 24 (0, 0)) blk_) : gb377 ≠ gb378)); have n6_ := Sd.mk ((by rw [hg]; exact Nat.ne_of_gt (blk_lt (g := gb377) (o := .cells #[.int .i64 a0_0, .int .i64 a0_1, .int .i64 a0_2, .int .i64 a0_3, .int .i64 a0_4, .int .i64 a0_5, .int .i64 a0_6, .int .i64 a0_7, .int .i64 a0_8, .int .i64 a0_9, .slice A0_10 l0_10.length c0_10] 24 (0, 0)) blk_) : gb378 ≠ gb377)); clear BK377; clear HB; have BK377 := n0_; have HB := n1_; have BK378 := n2_; have GW378 := n3_; have GE378 := n4_; have NB377_378 := n5_; have NB378_377 := n6_; clear n0_ n1_ n2_ n3_ n4_ n5_ n6_; clear hb hbox hg; have hnb9 := NB377_378.out; have hnc9 := NB378_377.out; obtain ⟨z10_0, z10_1, z10_2, z10_3, z10_4, z10_5, z10_6, z10_7, z10_8, z10_9, z10_10, j10_0, j10_1, j10_2, j10_3, j10_4, j10_5, j10_6, j10_7, j10_8, j10_9, j10_10⟩ := cells11 BK377.out; obtain ⟨z11_0, z11_1, z11_2, z11_3, z11_4, z11_5, j11_0, j11_1, j11_2, j11_3, j11_4, j11_5⟩ := cells6 BK378.out) | ((with_reducible refine gate_callee (f := 27) rfl ?_); refine goesL_ (some 16) rfl rfl Try.func27 (by kernel_rfl) rfl #[.agg #[.int .i64 a0_0, .int .i64 a0_1, .int .i64 a0_2, .int .i64 a0_3, .int .i64 a0_4, .int .i64 a0_5, .int .i64 a0_6, .int .i64 a0_7, .int .i64 a0_8, .int .i64 a0_9, .slice A0_10 l0_10.length c0_10], .agg #[.string a1_0, .int .i64 a1_1, .string a1_2, .int .i64 a1_3, .int .i64 a1_4, .string a1_5]] rfl (by (try simp only [List.map_toArray, List.map_cons, List.map_nil]); first | done | rfl | (simp only [List.length_drop, List.length_take]; rfl)) ?_; (with_reducible refine (wire_Encode.calls k a0_0 a0_1 a0_2 a0_3 a0_4 a0_5 a0_6 a0_7 a0_8 a0_9 _ _ l0_10 a1_0 a1_1 a1_2 a1_3 a1_4 a1_5 t379 t380 _ ?side1 ?side2 A5.out).mono ?_); (case side1 => repeat (first | exact (Kd.C_below HR0_10.out HB.out) | (with_reducible refine Kd.C_alloc ?_ _) | (with_reducible refine Kd.C_drewN ?_ _) | (with_reducible refine Kd.C_drew ?_))); (case side2 => exact HC0_10.out); rintro e w12 ⟨rfl, hb⟩; refine ⟨_, rfl, ?_⟩; have n0_ := Sd.mk (blk_below (g := gb377) blk_ hb); have n1_ := Sd.mk (blk_below (g := gb378) blk_ hb); have n2_ := Sd.mk (below_step bel_ hb); clear BK377; clear BK378; clear HB; have BK377 := n0_; have BK378 := n1_; have HB := n2_; clear n0_ n1_ n2_; (try clear hb); (try clear hb2); (try clear hk); (try clear hi)))
 (try simp only [Act.put, List.setIfInBounds_toArray, List.set_cons_zero, List.set_cons_succ])
 go_cut [37] (fun v37 wc => ∃ (kq : Nat) (x37_5 : Bool), v37 = .bool x37_5 ∧ Sd (l11WireTells.j0 kq a2 a3 t379 x37_5 a0_0 a0_1 a0_2 a0_3 a0_4 a0_5 a0_6 a0_7 a0_8 a0_9 l0_10 = some r) ∧ Sd (kq ≤ k) ∧ Sd (wc.heap[gb377]? = some (.cells #[.int .i64 a0_0, .int .i64 a0_1, .int .i64 a0_2, .int .i64 a0_3, .int .i64 a0_4, .int .i64 a0_5, .int .i64 a0_6, .int .i64 a0_7, .int .i64 a0_8, .int .i64 a0_9, (.slice A0_10 l0_10.length c0_10)] 24 (0, 0))) ∧ Sd (wc.heap[gb378]? = some (.cells #[.string a1_0, .int .i64 a1_1, .string a1_2, .int .i64 a1_3, .int .i64 a1_4, .string a1_5] 26 (0, 0))) ∧ Sd (Below w.heap.size w wc))
 case first =>
  have H := HC6.out
  clear HC6
  by_cases c13 : t380 = 0
  ·
   rw [if_pos c13] at H
   have c13b0 : (t380 == 0) = true := beq_iff_eq.mpr c13
   have c13b1 : (t380 != 0) = false := bne_eq_false_iff_eq.mpr c13
   clear c13
   (first | rw [c13b0] | (simp only [i64_w, i32_w]; rw [c13b0]) | skip)
   (try rw [c13b1])
   by_cases c14 : a2 < 0
   ·
    rw [if_pos c14] at H
    have c14b0 : decide (a2 < 0) = true := decide_eq_true c14
    clear c14
    have H' := Sd.mk H
    clear H
    go_wp2
    go_meet
    case rel => exact ⟨_, (true), (by first | rfl | (simp; done) | (simp [*]; done)), H', ⟨by first | omega | exact Nat.le_refl _⟩, ⟨blk_⟩, ⟨blk_⟩, ⟨bel_⟩⟩
   ·
    rw [if_neg c14] at H
    have c14b0 : decide (a2 < 0) = false := decide_eq_false c14
    clear c14
    by_cases c15 : a2 ≥ (t379.size : Int)
    ·
     rw [if_pos c15] at H
     have c15b0 : decide ((t379.size : Int) ≤ a2) = true := decide_eq_true c15
     clear c15
     have H' := Sd.mk H
     clear H
     go_wp2
     go_meet
     case rel => exact ⟨_, (true), (by first | rfl | (simp; done) | (simp [*]; done)), H', ⟨by first | omega | exact Nat.le_refl _⟩, ⟨blk_⟩, ⟨blk_⟩, ⟨bel_⟩⟩
    ·
     rw [if_neg c15] at H
     have c15b0 : decide ((t379.size : Int) ≤ a2) = false := decide_eq_false c15
     clear c15
     by_cases c16 : 0 ≤ a2
     ·
      rw [if_pos c16] at H
      have c16b0 : decide (0 ≤ a2) = true := decide_eq_true c16
      clear c16
      by_cases c17 : a2 < (t379.size : Int)
      ·
       rw [if_pos c17] at H
       have c17b0 : decide (a2 < (t379.size : Int)) = true := decide_eq_true c17
       clear c17
       have H' := Sd.mk H
       clear H
       have p18 : 0 ≤ (a2 : Int) := of_decide_eq_true (by first | (with_reducible assumption) | assumption)
       have q18 : a2 < (t379.size : Int) := of_decide_eq_true (by first | (with_reducible assumption) | assumption)
       have hx18 := bt_at t379 a2
       replace p18 := eq_true p18
       replace q18 := eq_true q18
       go_wp2
       go_meet
       case rel => exact ⟨_, (((bt t379 a2) == a3)), (by first | rfl | (simp; done) | (simp [*]; done)), H', ⟨by first | omega | exact Nat.le_refl _⟩, ⟨blk_⟩, ⟨blk_⟩, ⟨bel_⟩⟩
      ·
       rw [if_neg c17] at H
       exact absurd H (by simp)
     ·
      rw [if_neg c16] at H
      exact absurd H (by simp)
  ·
   rw [if_neg c13] at H
   have c13b0 : (t380 == 0) = false := beq_eq_false_iff_ne.mpr c13
   have c13b1 : (t380 != 0) = true := bne_iff_ne.mpr c13
   (first | rw [c13b0] | (simp only [i64_w, i32_w]; rw [c13b0]) | skip)
   (try rw [c13b1])
   have H' := Sd.mk H
   clear H
   go_wp2
   go_meet
   case rel => exact ⟨_, (true), (by first | rfl | (simp; done) | (simp [*]; done)), H', ⟨by first | omega | exact Nat.le_refl _⟩, ⟨blk_⟩, ⟨blk_⟩, ⟨bel_⟩⟩
 case rest =>
  clear HC6
  try clear c1
  try clear p1
  try clear q1
  try clear hx1
  try clear c2
  try clear p2
  try clear c9
  try clear c11
  try clear c13
  try clear c13b0
  try clear c13b1
  try clear c14
  try clear c14b0
  try clear c15
  try clear c15b0
  try clear c16
  try clear c16b0
  try clear c17
  try clear c17b0
  try clear p18
  try clear q18
  try clear hx18
  try clear z10_0 z10_1 z10_10 z10_2 z10_3 z10_4 z10_5 z10_6 z10_7 z10_8 z10_9
  try clear z11_0 z11_1 z11_2 z11_3 z11_4 z11_5
  try clear j10_0 j10_1 j10_10 j10_2 j10_3 j10_4 j10_5 j10_6 j10_7 j10_8 j10_9
  try clear j11_0 j11_1 j11_2 j11_3 j11_4 j11_5
  try clear p18
  try clear q18
  obtain ⟨kq, x37_5, rfl, HA, HJ5, BK377, BK378, HB⟩ := hcut
  cases kq with
  | zero => exact absurd HA.out (by simp [l11WireTells.j0])
  | succ kj5 =>
   have H := HA.out
   clear HA
   simp only [l11WireTells.j0] at H
   by_cases c19 : x37_5 = true
   ·
    subst c19
    have H1 : ((l11known.f kj5).bind fun t381 => (some t381)) = some r := by rw [if_pos rfl] at H; exact H
    clear H
    have H := H1
    clear H1
    replace H := Option.bind_eq_some_iff.mp H
    obtain ⟨t381, A200, H⟩ := H
    replace H : (some t381) = some r := H
    have A20 := Sd.mk A200
    clear A200
    obtain rfl := Option.some.inj H
    go_wp2_with (first | ((with_reducible refine gate_callee (f := 31) rfl ?_); refine goesL_ (some 38) rfl rfl Try.func31 (by kernel_rfl) rfl #[] rfl (by (try simp only [List.map_toArray, List.map_cons, List.map_nil]); first | done | rfl | (simp only [List.length_drop, List.length_take]; rfl)) ?_; (with_reducible refine (l11known.calls kj5  t381 _ A20.out).mono ?_); rintro e w21 ⟨rfl, hb⟩; refine ⟨_, rfl, ?_⟩; have n0_ := Sd.mk (blk_below (g := gb377) blk_ hb); have n1_ := Sd.mk (blk_below (g := gb378) blk_ hb); have n2_ := Sd.mk (below_step bel_ hb); clear BK377; clear BK378; clear HB; have BK377 := n0_; have BK378 := n1_; have HB := n2_; clear n0_ n1_ n2_; (try clear hb); (try clear hb2); (try clear hk); (try clear hi)))
    go_ret
    exact ⟨by first | rfl | (simp [errW_none, errW_some] <;> rfl) | (simp [*, errW_none, errW_some] <;> rfl), bel_⟩
   ·
    replace c19 := Bool.eq_false_iff.mpr c19
    subst c19
    have H1 : (if 0 ≤ a2 then (if a2 ≤ (t379.size : Int) then ((some (([a3] : List Int) : List Int)).bind fun y382 => (if (a2 : Int).toNat + (strOfNums y382).size ≤ 9223372036854775807 then (if 0 ≤ (wrap64 (a2 + 1)) then (if (wrap64 (a2 + 1)) ≤ (t379.size : Int) then (if ((a2 : Int).toNat + (strOfNums y382).size) + (t379.size - ((wrap64 (a2 + 1)) : Int).toNat) ≤ 9223372036854775807 then ((wire_Decode.f kj5 a0_0 a0_1 a0_2 a0_3 a0_4 a0_5 a0_6 a0_7 a0_8 a0_9 l0_10 (((t379.extract 0 (a2 : Int).toNat) ++ (strOfNums y382)) ++ (t379.extract ((wrap64 (a2 + 1)) : Int).toNat t379.size))).bind fun bt385 => (if bt385.2.2.2.2.2.2 = 4 then ((l11known.f kj5).bind fun t393 => (some t393)) else (some false))) else (none)) else (none)) else (none)) else (none))) else (none)) else (none)) = some r := by rw [if_neg (show ¬ (false = true) by decide)] at H; exact H
    clear H
    have H := H1
    clear H1
    by_cases c22 : 0 ≤ a2
    ·
     rw [if_pos c22] at H
     have c22b0 := eq_true c22
     have c22b1 : decide (0 ≤ a2) = true := decide_eq_true c22
     clear c22
     by_cases c23 : a2 ≤ (t379.size : Int)
     ·
      rw [if_pos c23] at H
      have c23b0 := eq_true c23
      have c23b1 : decide (a2 ≤ (t379.size : Int)) = true := decide_eq_true c23
      clear c23
      obtain ⟨y382, hy382⟩ : ∃ y_ : List Int, y_ = (([a3] : List Int)) := ⟨_, rfl⟩
      replace H : (if (a2 : Int).toNat + (strOfNums y382).size ≤ 9223372036854775807 then (if 0 ≤ (wrap64 (a2 + 1)) then (if (wrap64 (a2 + 1)) ≤ (t379.size : Int) then (if ((a2 : Int).toNat + (strOfNums y382).size) + (t379.size - ((wrap64 (a2 + 1)) : Int).toNat) ≤ 9223372036854775807 then ((wire_Decode.f kj5 a0_0 a0_1 a0_2 a0_3 a0_4 a0_5 a0_6 a0_7 a0_8 a0_9 l0_10 (((t379.extract 0 (a2 : Int).toNat) ++ (strOfNums y382)) ++ (t379.extract ((wrap64 (a2 + 1)) : Int).toNat t379.size))).bind fun bt385 => (if bt385.2.2.2.2.2.2 = 4 then ((l11known.f kj5).bind fun t393 => (some t393)) else (some false))) else (none)) else (none)) else (none)) else (none)) = some r := by first | (rw [hy382]; with_reducible exact H) | (have H2_ := (Option.bind_some _ _).symm.trans H; rw [hy382]; with_reducible exact H2_) | (have H2_ := (Option.bind_some _ _).symm.trans H; with_reducible exact H2_) | with_reducible exact H | (rw [hy382]; exact H) | exact H
      have Ny382 := Sd.mk hy382
      clear hy382
      by_cases c24 : (a2 : Int).toNat + (strOfNums y382).size ≤ 9223372036854775807
      ·
       rw [if_pos c24] at H
       have c24b0 := eq_true c24
       have c24b1 : decide ((a2 : Int).toNat + (strOfNums y382).size ≤ 9223372036854775807) = true := decide_eq_true c24
       try have c24b2 : (9223372036854775807 < (a2 : Int).toNat + (strOfNums y382).size) = False := eq_false (Nat.not_lt.2 c24)
       obtain ⟨ji25, hji25⟩ : ∃ j_ : Int, (wrap64 (a2 + 1)) = j_ := ⟨_, rfl⟩
       replace H : (if 0 ≤ (ji25) then (if (ji25) ≤ (t379.size : Int) then (if ((a2 : Int).toNat + (strOfNums y382).size) + (t379.size - ((ji25) : Int).toNat) ≤ 9223372036854775807 then ((wire_Decode.f kj5 a0_0 a0_1 a0_2 a0_3 a0_4 a0_5 a0_6 a0_7 a0_8 a0_9 l0_10 (((t379.extract 0 (a2 : Int).toNat) ++ (strOfNums y382)) ++ (t379.extract ((ji25) : Int).toNat t379.size))).bind fun bt385 => (if bt385.2.2.2.2.2.2 = 4 then ((l11known.f kj5).bind fun t393 => (some t393)) else (some false))) else (none)) else (none)) else (none)) = some r := by first | (rw [hji25] at H; exact H) | (simp only [hji25] at H ⊢; exact H)
       have hji25w : (IntKind.i64.wrap (a2 + 1)) = ji25 := (i64_w _).trans hji25
       by_cases c26 : 0 ≤ (ji25)
       ·
        rw [if_pos c26] at H
        have c26b0 := eq_true c26
        have c26b1 : decide (0 ≤ (ji25)) = true := decide_eq_true c26
        clear c26
        by_cases c27 : (ji25) ≤ (t379.size : Int)
        ·
         rw [if_pos c27] at H
         have c27b0 := eq_true c27
         have c27b1 : decide ((ji25) ≤ (t379.size : Int)) = true := decide_eq_true c27
         clear c27
         by_cases c28 : ((a2 : Int).toNat + (strOfNums y382).size) + (t379.size - ((ji25) : Int).toNat) ≤ 9223372036854775807
         ·
          rw [if_pos c28] at H
          have c28b0 := eq_true c28
          have c28b1 : decide (((a2 : Int).toNat + (strOfNums y382).size) + (t379.size - ((ji25) : Int).toNat) ≤ 9223372036854775807) = true := decide_eq_true c28
          try have c28b2 : (9223372036854775807 < ((a2 : Int).toNat + (strOfNums y382).size) + (t379.size - ((ji25) : Int).toNat)) = False := eq_false (Nat.not_lt.2 c28)
          replace H := Option.bind_eq_some_iff.mp H
          obtain ⟨⟨t385, t386, t387, t388, t389, t390, t391⟩, A290, H⟩ := H
          replace H : (if t391 = 4 then ((l11known.f kj5).bind fun t393 => (some t393)) else (some false)) = some r := H
          have A29 := Sd.mk A290
          clear A290
          by_cases c30 : t391 = 4
          ·
           rw [if_pos c30] at H
           have c30b0 : (t391 == 4) = true := beq_iff_eq.mpr c30
           have c30b1 : (t391 != 4) = false := bne_eq_false_iff_eq.mpr c30
           clear c30
           replace H := Option.bind_eq_some_iff.mp H
           obtain ⟨t393, A310, H⟩ := H
           replace H : (some t393) = some r := H
           have A31 := Sd.mk A310
           clear A310
           obtain rfl := Option.some.inj H
           try go_wp2
           have n0_ := Sd.mk (blk_drew BK377.out)
           have n1_ := Sd.mk (blk_drew BK378.out)
           have n2_ := Sd.mk (below_drew1 HB.out)
           clear BK377
           clear BK378
           clear HB
           have BK377 := n0_
           have BK378 := n1_
           have HB := n2_
           clear n0_ n1_ n2_
           refine start_ (n := 20) (S := fun w' => w'.cell? ⟨gb377, 0, none⟩ = some (.int .i64 a0_0) ∧ w'.cell? ⟨gb377, 1, none⟩ = some (.int .i64 a0_1) ∧ w'.cell? ⟨gb377, 2, none⟩ = some (.int .i64 a0_2) ∧ w'.cell? ⟨gb377, 3, none⟩ = some (.int .i64 a0_3) ∧ w'.cell? ⟨gb377, 4, none⟩ = some (.int .i64 a0_4) ∧ w'.cell? ⟨gb377, 5, none⟩ = some (.int .i64 a0_5) ∧ w'.cell? ⟨gb377, 6, none⟩ = some (.int .i64 a0_6) ∧ w'.cell? ⟨gb377, 7, none⟩ = some (.int .i64 a0_7) ∧ w'.cell? ⟨gb377, 8, none⟩ = some (.int .i64 a0_8) ∧ w'.cell? ⟨gb377, 9, none⟩ = some (.int .i64 a0_9) ∧ w'.cell? ⟨gb377, 10, none⟩ = some (.slice A0_10 l0_10.length c0_10)) (ds := []) #[false,false,false,false,false,false,false,false,false,false,false,false,false,false,false,false,false,false,false,false] (by kernel_rfl) rfl rfl ⟨(blk_cell BK377.out 0).trans rfl, (blk_cell BK377.out 1).trans rfl, (blk_cell BK377.out 2).trans rfl, (blk_cell BK377.out 3).trans rfl, (blk_cell BK377.out 4).trans rfl, (blk_cell BK377.out 5).trans rfl, (blk_cell BK377.out 6).trans rfl, (blk_cell BK377.out 7).trans rfl, (blk_cell BK377.out 8).trans rfl, (blk_cell BK377.out 9).trans rfl, (blk_cell BK377.out 10).trans rfl⟩ (fun hHeld => ?_); refine with_tabW l11WireTells.tab4 l11WireTells.bits4 (fun HT_ HW_ => ?_)
           generalize wc.drew = w32 at BK377 BK378 HB hHeld ⊢
           refine pure_ (i := 1) (N := some 41) (v := ?_) (a' := ?_) #[false,true,false,false,false,false,false,false,false,false,false,false,false,false,false,false,false,false,false,false] rfl rfl (any_of HT_.out (by kernel_rfl)) (fun _ _ _ h => h) (Or.inl ⟨by rfl, ?_⟩) ?_ ?_
           rotate_left
           ·
            intro w'
            go_simp
            with_reducible rfl
           rotate_left
           ·
            simp only [Act.put, List.setIfInBounds_toArray, List.set_cons_zero, List.set_cons_succ, i64_w, i32_w]
            rfl
           refine pure_ (i := 2) (N := some 42) (v := ?_) (a' := ?_) #[false,true,true,false,false,false,false,false,false,false,false,false,false,false,false,false,false,false,false,false] rfl rfl (any_of HT_.out (by kernel_rfl)) (fun _ _ _ h => h) (Or.inl ⟨by rfl, ?_⟩) ?_ ?_
           rotate_left
           ·
            intro w'
            go_simp
            with_reducible rfl
           rotate_left
           ·
            simp only [Act.put, List.setIfInBounds_toArray, List.set_cons_zero, List.set_cons_succ, i64_w, i32_w]
            rfl
           refine pure_ (i := 3) (N := some 43) (v := ?_) (a' := ?_) #[false,true,true,true,false,false,false,false,false,false,false,false,false,false,false,false,false,false,false,false] rfl rfl (any_of HT_.out (by kernel_rfl)) (fun _ _ _ h => h) (Or.inl ⟨by rfl, ?_⟩) ?_ ?_
           rotate_left
           ·
            intro w'
            go_simp
            with_reducible rfl
           rotate_left
           ·
            simp only [Act.put, List.setIfInBounds_toArray, List.set_cons_zero, List.set_cons_succ, i64_w, i32_w]
            rfl
           refine pure_ (i := 4) (N := some 44) (v := ?_) (a' := ?_) #[false,true,true,true,true,false,false,false,false,false,false,false,false,false,false,false,false,false,false,false] rfl rfl (any_of HT_.out (by kernel_rfl)) (fun _ _ _ h => h) (Or.inl ⟨by rfl, ?_⟩) ?_ ?_
           rotate_left
           ·
            intro w'
            go_simp
            with_reducible rfl
           rotate_left
           ·
            simp only [Act.put, List.setIfInBounds_toArray, List.set_cons_zero, List.set_cons_succ, i64_w, i32_w]
            rfl
           refine pure_ (i := 8) (N := some 48) (v := ?_) (a' := ?_) #[false,true,true,true,true,false,false,false,true,false,false,false,false,false,false,false,false,false,false,false] rfl rfl (any_of HT_.out (by kernel_rfl)) (fun _ _ _ h => h) (Or.inl ⟨by rfl, ?_⟩) ?_ ?_
           rotate_left
           ·
            intro w'
            go_simp
            with_reducible rfl
           rotate_left
           ·
            simp only [Act.put, List.setIfInBounds_toArray, List.set_cons_zero, List.set_cons_succ, i64_w, i32_w]
            rfl
           refine pure_ (i := 9) (N := some 49) (v := ?_) (a' := ?_) #[false,true,true,true,true,false,false,false,true,true,false,false,false,false,false,false,false,false,false,false] rfl rfl (any_of HT_.out (by kernel_rfl)) (fun _ _ _ h => h) (Or.inl ⟨by rfl, ?_⟩) ?_ ?_
           rotate_left
           ·
            intro w'
            go_simp
            with_reducible rfl
           rotate_left
           ·
            simp only [Act.put, List.setIfInBounds_toArray, List.set_cons_zero, List.set_cons_succ, i64_w, i32_w]
            rfl
           refine pure_ (i := 10) (N := some 50) (v := ?_) (a' := ?_) #[false,true,true,true,true,false,false,false,true,true,true,false,false,false,false,false,false,false,false,false] rfl rfl (any_of HT_.out (by kernel_rfl)) (fun _ _ _ h => h) (Or.inl ⟨by rfl, ?_⟩) ?_ ?_
           rotate_left
           ·
            intro w'
            go_simp
            with_reducible rfl
           rotate_left
           ·
            simp only [Act.put, List.setIfInBounds_toArray, List.set_cons_zero, List.set_cons_succ, i64_w, i32_w]
            rfl
           refine pure_ (i := 11) (N := some 51) (v := ?_) (a' := ?_) #[false,true,true,true,true,false,false,false,true,true,true,true,false,false,false,false,false,false,false,false] rfl rfl (any_of HT_.out (by kernel_rfl)) (fun _ _ _ h => h) (Or.inl ⟨by rfl, ?_⟩) ?_ ?_
           rotate_left
           ·
            intro w'
            go_simp
            with_reducible rfl
           rotate_left
           ·
            simp only [Act.put, List.setIfInBounds_toArray, List.set_cons_zero, List.set_cons_succ, i64_w, i32_w]
            rfl
           refine take_ (i := 0) (N := some 40) (v := ?_) (a' := ?_) #[true,true,true,true,true,false,false,false,true,true,true,true,false,false,false,false,false,false,false,false] rfl rfl (take_ofW HT_.out HW_.out (by kernel_rfl)) (fun _ _ _ h => h) (Or.inl ⟨by rfl, ?_⟩) hHeld ?_ ?_
           rotate_left
           ·
            rintro w' ⟨s0, s1, s2, s3, s4, s5, s6, s7, s8, s9, s10⟩
            go_simp
            with_reducible rfl
           rotate_left
           ·
            simp only [Act.put, List.setIfInBounds_toArray, List.set_cons_zero, List.set_cons_succ, i64_w, i32_w]
            rfl
           refine join_ (σ := Value × Nat) 2 #[true,true,true,true,true,true,true,true,true,true,true,true,true,true,true,true,true,true,false,false] (fun s_ => [(45, s_.1), (46, .string (strOfNums y382)), (53, .tuple #[.agg #[.string t385, .int .i64 t386, .string t387, .int .i64 t388, .int .i64 t389, .string t390], .int .i64 t391]), (11, .pointer (some ⟨s_.2, 0, none⟩)), (47, .string ((t379.extract 0 (a2 : Int).toNat) ++ (strOfNums y382))), (52, .string (((t379.extract 0 (a2 : Int).toNat) ++ (strOfNums y382)) ++ (t379.extract ((ji25) : Int).toNat t379.size))), (39, .tuple #[.agg #[.string t385, .int .i64 t386, .string t387, .int .i64 t388, .int .i64 t389, .string t390], .int .i64 t391]), (54, .agg #[.string t385, .int .i64 t386, .string t387, .int .i64 t388, .int .i64 t389, .string t390]), (55, .int .i64 t391)]) (fun s_ w' => (w'.cell? ⟨gb377, 0, none⟩ = some (.int .i64 a0_0) ∧ w'.cell? ⟨gb377, 1, none⟩ = some (.int .i64 a0_1) ∧ w'.cell? ⟨gb377, 2, none⟩ = some (.int .i64 a0_2) ∧ w'.cell? ⟨gb377, 3, none⟩ = some (.int .i64 a0_3) ∧ w'.cell? ⟨gb377, 4, none⟩ = some (.int .i64 a0_4) ∧ w'.cell? ⟨gb377, 5, none⟩ = some (.int .i64 a0_5) ∧ w'.cell? ⟨gb377, 6, none⟩ = some (.int .i64 a0_6) ∧ w'.cell? ⟨gb377, 7, none⟩ = some (.int .i64 a0_7) ∧ w'.cell? ⟨gb377, 8, none⟩ = some (.int .i64 a0_8) ∧ w'.cell? ⟨gb377, 9, none⟩ = some (.int .i64 a0_9) ∧ w'.cell? ⟨gb377, 10, none⟩ = some (.slice A0_10 l0_10.length c0_10)) ∧ (Kd.R (Kd.int .u8) 5 w' w.heap.size (fun _ => True) s_.1 y382) ∧ (w'.heap[gb377]? = some (.cells #[.int .i64 a0_0, .int .i64 a0_1, .int .i64 a0_2, .int .i64 a0_3, .int .i64 a0_4, .int .i64 a0_5, .int .i64 a0_6, .int .i64 a0_7, .int .i64 a0_8, .int .i64 a0_9, .slice A0_10 l0_10.length c0_10] 24 (0, 0))) ∧ (w'.heap[gb378]? = some (.cells #[.string a1_0, .int .i64 a1_1, .string a1_2, .int .i64 a1_3, .int .i64 a1_4, .string a1_5] 26 (0, 0))) ∧ (w'.heap[s_.2]? = some (.cells #[.string (⟨#[]⟩ : ByteArray), .int .i64 0, .string (⟨#[]⟩ : ByteArray), .int .i64 0, .int .i64 0, .string (⟨#[]⟩ : ByteArray)] 26 (0, 0))) ∧ (w.heap.size ≤ s_.2) ∧ (w.heap.size ≤ s_.2) ∧ (gb377 ≠ s_.2) ∧ (s_.2 ≠ gb377) ∧ (gb378 ≠ s_.2) ∧ (s_.2 ≠ gb378) ∧ (Below w.heap.size w w')) ?_ ?_
           rotate_left
           ·
            intro hCont
            refine two_ (i := 5) (j := 17) (Ni := some 45) (Nj := some 11) #[true,true,true,true,true,true,false,false,true,true,true,true,false,false,false,false,false,false,false,false] #[true,true,true,true,true,false,false,false,true,true,true,true,false,false,false,false,false,true,false,false] rfl rfl rfl rfl (two_of HT_.out (by kernel_rfl)) (by decide) (by decide) (fun K hK => ?_) (fun K hK => ?_)
            ·
             skip
             refine Kd.R_lit_step (Kd.int .u8) _ 5 ?hg (N := 45) ?hd (xs := ([a3] : List Int)) (inner := [.int .u8 a3]) (ok := fun _ => True) (okp := fun _ => True) ?hr ?hp (fun _ hk => hk) trivial (Below.refl _ _) (Nat.le_refl _) (by simp) ?_; (case hd => rfl); (case hg => rfl); (case hr => first | (go_simp; done) | (go_simp; rfl)); (case hp => exact (Reps.one (show Kd.M (Kd.int .u8) _ _ _ a3 [.int .u8 a3] from rfl) (Reps.none _ _)))
             intro v383 w33 ho34 hb hg_ hnew_
             clear hg_ hnew_
             (first | rw [← Ny382.out] at ho34 | (simp only [Int.reduceToNat] at ho34; rw [← Ny382.out] at ho34))
             have n0_ := Sd.mk (Kd.R_lower ho34 (below_size bel_))
             have n1_ := Sd.mk (blk_below (g := gb377) blk_ hb)
             have n2_ := Sd.mk (blk_below (g := gb378) blk_ hb)
             have n3_ := Sd.mk (below_step bel_ hb)
             clear BK377
             clear BK378
             clear HB
             have HO384 := n0_
             have BK377 := n1_
             have BK378 := n2_
             have HB := n3_
             clear n0_ n1_ n2_ n3_
             clear hb ho34
             refine hK.out _ _ ⟨(blk_cell BK377.out 0).trans rfl, (blk_cell BK377.out 1).trans rfl, (blk_cell BK377.out 2).trans rfl, (blk_cell BK377.out 3).trans rfl, (blk_cell BK377.out 4).trans rfl, (blk_cell BK377.out 5).trans rfl, (blk_cell BK377.out 6).trans rfl, (blk_cell BK377.out 7).trans rfl, (blk_cell BK377.out 8).trans rfl, (blk_cell BK377.out 9).trans rfl, (blk_cell BK377.out 10).trans rfl⟩ (fun hHeld => ?_)
             clear hK K
             refine norm_ (a' := ?_) ?_ ?_
             rotate_left
             ·
              show Act.put _ (some 45) _ = _
              simp only [Act.put, List.setIfInBounds_toArray, List.set_cons_zero, List.set_cons_succ, i64_w, i32_w]
              rfl
             refine two_ (i := 6) (j := 17) (Ni := some 46) (Nj := some 11) #[true,true,true,true,true,true,true,false,true,true,true,true,false,false,false,false,false,false,false,false] #[true,true,true,true,true,true,false,false,true,true,true,true,false,false,false,false,false,true,false,false] rfl rfl rfl rfl (two_of HT_.out (by kernel_rfl)) (by decide) (by decide) (fun K hK => ?_) (fun K hK => ?_)
             ·
              skip
              have hcv35 := own_string (P := Try.prog) Try.underlying44 Try.underlying5 Try.underlying9 (Kd.own_of_R HO384.out)
              refine value_ (w1 := ?_) (v := ?_) (by rfl) rfl ?_ ?_
              rotate_left 2
              ·
               go_simp
               constructor
               ·
                rfl
               ·
                rfl
              clear hcv35
              refine hK.out _ _ ⟨(blk_cell BK377.out 0).trans rfl, (blk_cell BK377.out 1).trans rfl, (blk_cell BK377.out 2).trans rfl, (blk_cell BK377.out 3).trans rfl, (blk_cell BK377.out 4).trans rfl, (blk_cell BK377.out 5).trans rfl, (blk_cell BK377.out 6).trans rfl, (blk_cell BK377.out 7).trans rfl, (blk_cell BK377.out 8).trans rfl, (blk_cell BK377.out 9).trans rfl, (blk_cell BK377.out 10).trans rfl⟩ (fun hHeld => ?_)
              clear hK K
              refine norm_ (a' := ?_) ?_ ?_
              rotate_left
              ·
               show Act.put _ (some 46) _ = _
               simp only [Act.put, List.setIfInBounds_toArray, List.set_cons_zero, List.set_cons_succ, i64_w, i32_w]
               rfl
              refine pure_ (i := 7) (N := some 47) (v := ?_) (a' := ?_) #[true,true,true,true,true,true,true,true,true,true,true,true,false,false,false,false,false,false,false,false] rfl rfl (any_of HT_.out (by kernel_rfl)) (fun _ _ _ h => h) (Or.inl ⟨by rfl, ?_⟩) ?_ ?_
              rotate_left
              ·
               intro w'
               go_simp
               with_reducible rfl
              rotate_left
              ·
               simp only [Act.put, List.setIfInBounds_toArray, List.set_cons_zero, List.set_cons_succ, i64_w, i32_w]
               rfl
              refine pure_ (i := 12) (N := some 52) (v := ?_) (a' := ?_) #[true,true,true,true,true,true,true,true,true,true,true,true,true,false,false,false,false,false,false,false] rfl rfl (any_of HT_.out (by kernel_rfl)) (fun _ _ _ h => h) (Or.inl ⟨by rfl, ?_⟩) ?_ ?_
              rotate_left
              ·
               intro w'
               go_simp
               with_reducible rfl
              rotate_left
              ·
               simp only [Act.put, List.setIfInBounds_toArray, List.set_cons_zero, List.set_cons_succ, i64_w, i32_w]
               rfl
              refine two_ (i := 13) (j := 17) (Ni := some 53) (Nj := some 11) #[true,true,true,true,true,true,true,true,true,true,true,true,true,true,false,false,false,false,false,false] #[true,true,true,true,true,true,true,true,true,true,true,true,true,false,false,false,false,true,false,false] rfl rfl rfl rfl (two_of HT_.out (by kernel_rfl)) (by decide) (by decide) (fun K hK => ?_) (fun K hK => ?_)
              ·
               skip
               refine goes_ Try.func32 (by kernel_rfl) rfl #[.agg #[.int .i64 a0_0, .int .i64 a0_1, .int .i64 a0_2, .int .i64 a0_3, .int .i64 a0_4, .int .i64 a0_5, .int .i64 a0_6, .int .i64 a0_7, .int .i64 a0_8, .int .i64 a0_9, .slice A0_10 l0_10.length c0_10], .string (((t379.extract 0 (a2 : Int).toNat) ++ (strOfNums y382)) ++ (t379.extract ((ji25) : Int).toNat t379.size))] (by rfl) rfl rfl (by (try simp only [List.map_toArray, List.map_cons, List.map_nil]); first | done | (simp only [hji25]; rfl) | rfl | (simp only [List.length_drop, List.length_take]; rfl)) ?_
               with_reducible refine (wire_Decode.calls kj5 a0_0 a0_1 a0_2 a0_3 a0_4 a0_5 a0_6 a0_7 a0_8 a0_9 _ _ l0_10 (((t379.extract 0 (a2 : Int).toNat) ++ (strOfNums y382)) ++ (t379.extract ((ji25) : Int).toNat t379.size)) t385 t386 t387 t388 t389 t390 t391 _ ?side1 ?side2 A29.out).mono ?_
               (case side1 => repeat (first | exact (Kd.C_below HR0_10.out HB.out) | (with_reducible refine Kd.C_alloc ?_ _) | (with_reducible refine Kd.C_drewN ?_ _) | (with_reducible refine Kd.C_drew ?_)))
               (case side2 => exact HC0_10.out)
               rintro e w36 ⟨rfl, hb⟩
               refine ⟨_, rfl, ?_⟩
               have n0_ := Sd.mk (Kd.R_below (by (with_reducible repeat (first | apply Kd.R_alloc | apply Kd.R_drewN | apply Kd.R_drew)); exact HO384.out) hb)
               have n1_ := Sd.mk (blk_below (g := gb377) blk_ hb)
               have n2_ := Sd.mk (blk_below (g := gb378) blk_ hb)
               have n3_ := Sd.mk (below_step bel_ hb)
               clear HO384
               clear BK377
               clear BK378
               clear HB
               have HO384 := n0_
               have BK377 := n1_
               have BK378 := n2_
               have HB := n3_
               clear n0_ n1_ n2_ n3_
               (try clear hb)
               (try clear hb2)
               (try clear hk)
               (try clear hi)
               refine hK.out _ _ ⟨(blk_cell BK377.out 0).trans rfl, (blk_cell BK377.out 1).trans rfl, (blk_cell BK377.out 2).trans rfl, (blk_cell BK377.out 3).trans rfl, (blk_cell BK377.out 4).trans rfl, (blk_cell BK377.out 5).trans rfl, (blk_cell BK377.out 6).trans rfl, (blk_cell BK377.out 7).trans rfl, (blk_cell BK377.out 8).trans rfl, (blk_cell BK377.out 9).trans rfl, (blk_cell BK377.out 10).trans rfl⟩ (fun hHeld => ?_)
               clear hK K
               refine norm_ (a' := ?_) ?_ ?_
               rotate_left
               ·
                show Act.put _ (some 53) _ = _
                simp only [Act.put, List.setIfInBounds_toArray, List.set_cons_zero, List.set_cons_succ, i64_w, i32_w]
                rfl
               refine pure_ (i := 14) (N := some 39) (v := ?_) (a' := ?_) #[true,true,true,true,true,true,true,true,true,true,true,true,true,true,true,false,false,false,false,false] rfl rfl (any_of HT_.out (by kernel_rfl)) (fun _ _ _ h => h) (Or.inl ⟨by rfl, ?_⟩) ?_ ?_
               rotate_left
               ·
                intro w'
                go_simp
                with_reducible rfl
               rotate_left
               ·
                simp only [Act.put, List.setIfInBounds_toArray, List.set_cons_zero, List.set_cons_succ, i64_w, i32_w]
                rfl
               refine pure_ (i := 15) (N := some 54) (v := ?_) (a' := ?_) #[true,true,true,true,true,true,true,true,true,true,true,true,true,true,true,true,false,false,false,false] rfl rfl (any_of HT_.out (by kernel_rfl)) (fun _ _ _ h => h) (Or.inl ⟨by rfl, ?_⟩) ?_ ?_
               rotate_left
               ·
                intro w'
                go_simp
                with_reducible rfl
               rotate_left
               ·
                simp only [Act.put, List.setIfInBounds_toArray, List.set_cons_zero, List.set_cons_succ, i64_w, i32_w]
                rfl
               refine pure_ (i := 16) (N := some 55) (v := ?_) (a' := ?_) #[true,true,true,true,true,true,true,true,true,true,true,true,true,true,true,true,true,false,false,false] rfl rfl (any_of HT_.out (by kernel_rfl)) (fun _ _ _ h => h) (Or.inl ⟨by rfl, ?_⟩) ?_ ?_
               rotate_left
               ·
                intro w'
                go_simp
                with_reducible rfl
               rotate_left
               ·
                simp only [Act.put, List.setIfInBounds_toArray, List.set_cons_zero, List.set_cons_succ, i64_w, i32_w]
                rfl
               refine one_ (i := 17) (N := some 11) #[true,true,true,true,true,true,true,true,true,true,true,true,true,true,true,true,true,true,false,false] rfl rfl (one_of HT_.out (by kernel_rfl)) (by decide) (fun K hK => ?_)
               refine box_step ?hg (N := 11) ?hd (cs := #[.string (⟨#[]⟩ : ByteArray), .int .i64 0, .string (⟨#[]⟩ : ByteArray), .int .i64 0, .int .i64 0, .string (⟨#[]⟩ : ByteArray)]) (t := 26) ?hr ?_; (case hd => rfl); (case hg => rfl); (case hr => first | (go_simp; done) | (go_simp; rfl))
               intro gb392 hg w37 hbox hb
               have n0_ := Sd.mk (Kd.R_below (by (with_reducible repeat (first | apply Kd.R_alloc | apply Kd.R_drewN | apply Kd.R_drew)); exact HO384.out) hb)
               have n1_ := Sd.mk (blk_below (g := gb377) blk_ hb)
               have n2_ := Sd.mk (blk_below (g := gb378) blk_ hb)
               have n3_ := Sd.mk (below_step bel_ hb)
               have n4_ := Sd.mk (hbox)
               have n5_ := Sd.mk ((by rw [hg]; exact (below_size bel_) : w.heap.size ≤ gb392))
               have n6_ := Sd.mk ((by rw [hg]; exact (below_size bel_) : w.heap.size ≤ gb392))
               have n7_ := Sd.mk ((by rw [hg]; exact Nat.ne_of_lt (blk_lt (g := gb377) (o := .cells #[.int .i64 a0_0, .int .i64 a0_1, .int .i64 a0_2, .int .i64 a0_3, .int .i64 a0_4, .int .i64 a0_5, .int .i64 a0_6, .int .i64 a0_7, .int .i64 a0_8, .int .i64 a0_9, .slice A0_10 l0_10.length c0_10] 24 (0, 0)) blk_) : gb377 ≠ gb392))
               have n8_ := Sd.mk ((by rw [hg]; exact Nat.ne_of_gt (blk_lt (g := gb377) (o := .cells #[.int .i64 a0_0, .int .i64 a0_1, .int .i64 a0_2, .int .i64 a0_3, .int .i64 a0_4, .int .i64 a0_5, .int .i64 a0_6, .int .i64 a0_7, .int .i64 a0_8, .int .i64 a0_9, .slice A0_10 l0_10.length c0_10] 24 (0, 0)) blk_) : gb392 ≠ gb377))
               have n9_ := Sd.mk ((by rw [hg]; exact Nat.ne_of_lt (blk_lt (g := gb378) (o := .cells #[.string a1_0, .int .i64 a1_1, .string a1_2, .int .i64 a1_3, .int .i64 a1_4, .string a1_5] 26 (0, 0)) blk_) : gb378 ≠ gb392))
               have n10_ := Sd.mk ((by rw [hg]; exact Nat.ne_of_gt (blk_lt (g := gb378) (o := .cells #[.string a1_0, .int .i64 a1_1, .string a1_2, .int .i64 a1_3, .int .i64 a1_4, .string a1_5] 26 (0, 0)) blk_) : gb392 ≠ gb378))
               clear HO384
               clear BK377
               clear BK378
               clear HB
               have HO384 := n0_
               have BK377 := n1_
               have BK378 := n2_
               have HB := n3_
               have BK392 := n4_
               have GW392 := n5_
               have GE392 := n6_
               have NB377_392 := n7_
               have NB392_377 := n8_
               have NB378_392 := n9_
               have NB392_378 := n10_
               clear n0_ n1_ n2_ n3_ n4_ n5_ n6_ n7_ n8_ n9_ n10_
               clear hb hbox hg
               refine hK.out _ _ ⟨(blk_cell BK377.out 0).trans rfl, (blk_cell BK377.out 1).trans rfl, (blk_cell BK377.out 2).trans rfl, (blk_cell BK377.out 3).trans rfl, (blk_cell BK377.out 4).trans rfl, (blk_cell BK377.out 5).trans rfl, (blk_cell BK377.out 6).trans rfl, (blk_cell BK377.out 7).trans rfl, (blk_cell BK377.out 8).trans rfl, (blk_cell BK377.out 9).trans rfl, (blk_cell BK377.out 10).trans rfl⟩ (fun hHeld => ?_)
               clear hK K
               refine norm_ (a' := ?_) ?_ ?_
               rotate_left
               ·
                show Act.put _ (some 11) _ = _
                simp only [Act.put, List.setIfInBounds_toArray, List.set_cons_zero, List.set_cons_succ, i64_w, i32_w]
                rfl
               exact norm_ (by simp only [putAll, Act.put, List.setIfInBounds_toArray, List.set_cons_zero, List.set_cons_succ]) (hCont (v383, gb392) _ ⟨hHeld, (by (with_reducible repeat (first | apply Kd.R_alloc | apply Kd.R_drewN | apply Kd.R_drew)); exact HO384.out), blk_, blk_, blk_, GW392.out, GE392.out, NB377_392.out, NB392_377.out, NB378_392.out, NB392_378.out, bel_⟩)
              ·
               skip
               refine box_step ?hg (N := 11) ?hd (cs := #[.string (⟨#[]⟩ : ByteArray), .int .i64 0, .string (⟨#[]⟩ : ByteArray), .int .i64 0, .int .i64 0, .string (⟨#[]⟩ : ByteArray)]) (t := 26) ?hr ?_; (case hd => rfl); (case hg => rfl); (case hr => first | (go_simp; done) | (go_simp; rfl))
               intro gb392 hg w36 hbox hb
               have n0_ := Sd.mk (Kd.R_below (by (with_reducible repeat (first | apply Kd.R_alloc | apply Kd.R_drewN | apply Kd.R_drew)); exact HO384.out) hb)
               have n1_ := Sd.mk (blk_below (g := gb377) blk_ hb)
               have n2_ := Sd.mk (blk_below (g := gb378) blk_ hb)
               have n3_ := Sd.mk (below_step bel_ hb)
               have n4_ := Sd.mk (hbox)
               have n5_ := Sd.mk ((by rw [hg]; exact (below_size bel_) : w.heap.size ≤ gb392))
               have n6_ := Sd.mk ((by rw [hg]; exact (below_size bel_) : w.heap.size ≤ gb392))
               have n7_ := Sd.mk ((by rw [hg]; exact Nat.ne_of_lt (blk_lt (g := gb377) (o := .cells #[.int .i64 a0_0, .int .i64 a0_1, .int .i64 a0_2, .int .i64 a0_3, .int .i64 a0_4, .int .i64 a0_5, .int .i64 a0_6, .int .i64 a0_7, .int .i64 a0_8, .int .i64 a0_9, .slice A0_10 l0_10.length c0_10] 24 (0, 0)) blk_) : gb377 ≠ gb392))
               have n8_ := Sd.mk ((by rw [hg]; exact Nat.ne_of_gt (blk_lt (g := gb377) (o := .cells #[.int .i64 a0_0, .int .i64 a0_1, .int .i64 a0_2, .int .i64 a0_3, .int .i64 a0_4, .int .i64 a0_5, .int .i64 a0_6, .int .i64 a0_7, .int .i64 a0_8, .int .i64 a0_9, .slice A0_10 l0_10.length c0_10] 24 (0, 0)) blk_) : gb392 ≠ gb377))
               have n9_ := Sd.mk ((by rw [hg]; exact Nat.ne_of_lt (blk_lt (g := gb378) (o := .cells #[.string a1_0, .int .i64 a1_1, .string a1_2, .int .i64 a1_3, .int .i64 a1_4, .string a1_5] 26 (0, 0)) blk_) : gb378 ≠ gb392))
               have n10_ := Sd.mk ((by rw [hg]; exact Nat.ne_of_gt (blk_lt (g := gb378) (o := .cells #[.string a1_0, .int .i64 a1_1, .string a1_2, .int .i64 a1_3, .int .i64 a1_4, .string a1_5] 26 (0, 0)) blk_) : gb392 ≠ gb378))
               clear HO384
               clear BK377
               clear BK378
               clear HB
               have HO384 := n0_
               have BK377 := n1_
               have BK378 := n2_
               have HB := n3_
               have BK392 := n4_
               have GW392 := n5_
               have GE392 := n6_
               have NB377_392 := n7_
               have NB392_377 := n8_
               have NB378_392 := n9_
               have NB392_378 := n10_
               clear n0_ n1_ n2_ n3_ n4_ n5_ n6_ n7_ n8_ n9_ n10_
               clear hb hbox hg
               refine hK.out _ _ ⟨(blk_cell BK377.out 0).trans rfl, (blk_cell BK377.out 1).trans rfl, (blk_cell BK377.out 2).trans rfl, (blk_cell BK377.out 3).trans rfl, (blk_cell BK377.out 4).trans rfl, (blk_cell BK377.out 5).trans rfl, (blk_cell BK377.out 6).trans rfl, (blk_cell BK377.out 7).trans rfl, (blk_cell BK377.out 8).trans rfl, (blk_cell BK377.out 9).trans rfl, (blk_cell BK377.out 10).trans rfl⟩ (fun hHeld => ?_)
               clear hK K
               refine norm_ (a' := ?_) ?_ ?_
               rotate_left
               ·
                show Act.put _ (some 11) _ = _
                simp only [Act.put, List.setIfInBounds_toArray, List.set_cons_zero, List.set_cons_succ, i64_w, i32_w]
                rfl
               refine one_ (i := 13) (N := some 53) #[true,true,true,true,true,true,true,true,true,true,true,true,true,true,false,false,false,true,false,false] rfl rfl (one_of HT_.out (by kernel_rfl)) (by decide) (fun K hK => ?_)
               refine goes_ Try.func32 (by kernel_rfl) rfl #[.agg #[.int .i64 a0_0, .int .i64 a0_1, .int .i64 a0_2, .int .i64 a0_3, .int .i64 a0_4, .int .i64 a0_5, .int .i64 a0_6, .int .i64 a0_7, .int .i64 a0_8, .int .i64 a0_9, .slice A0_10 l0_10.length c0_10], .string (((t379.extract 0 (a2 : Int).toNat) ++ (strOfNums y382)) ++ (t379.extract ((ji25) : Int).toNat t379.size))] (by rfl) rfl rfl (by (try simp only [List.map_toArray, List.map_cons, List.map_nil]); first | done | (simp only [hji25]; rfl) | rfl | (simp only [List.length_drop, List.length_take]; rfl)) ?_
               with_reducible refine (wire_Decode.calls kj5 a0_0 a0_1 a0_2 a0_3 a0_4 a0_5 a0_6 a0_7 a0_8 a0_9 _ _ l0_10 (((t379.extract 0 (a2 : Int).toNat) ++ (strOfNums y382)) ++ (t379.extract ((ji25) : Int).toNat t379.size)) t385 t386 t387 t388 t389 t390 t391 _ ?side1 ?side2 A29.out).mono ?_
               (case side1 => repeat (first | exact (Kd.C_below HR0_10.out HB.out) | (with_reducible refine Kd.C_alloc ?_ _) | (with_reducible refine Kd.C_drewN ?_ _) | (with_reducible refine Kd.C_drew ?_)))
               (case side2 => exact HC0_10.out)
               rintro e w37 ⟨rfl, hb⟩
               refine ⟨_, rfl, ?_⟩
               have n0_ := Sd.mk (Kd.R_below (by (with_reducible repeat (first | apply Kd.R_alloc | apply Kd.R_drewN | apply Kd.R_drew)); exact HO384.out) hb)
               have n1_ := Sd.mk (blk_below (g := gb377) blk_ hb)
               have n2_ := Sd.mk (blk_below (g := gb378) blk_ hb)
               have n3_ := Sd.mk (blk_below (g := gb392) (o := .cells #[.string (⟨#[]⟩ : ByteArray), .int .i64 0, .string (⟨#[]⟩ : ByteArray), .int .i64 0, .int .i64 0, .string (⟨#[]⟩ : ByteArray)] 26 (0, 0)) blk_ hb)
               have n4_ := Sd.mk (below_step bel_ hb)
               clear HO384
               clear BK377
               clear BK378
               clear BK392
               clear HB
               have HO384 := n0_
               have BK377 := n1_
               have BK378 := n2_
               have BK392 := n3_
               have HB := n4_
               clear n0_ n1_ n2_ n3_ n4_
               (try clear hb)
               (try clear hb2)
               (try clear hk)
               (try clear hi)
               refine hK.out _ _ ⟨(blk_cell BK377.out 0).trans rfl, (blk_cell BK377.out 1).trans rfl, (blk_cell BK377.out 2).trans rfl, (blk_cell BK377.out 3).trans rfl, (blk_cell BK377.out 4).trans rfl, (blk_cell BK377.out 5).trans rfl, (blk_cell BK377.out 6).trans rfl, (blk_cell BK377.out 7).trans rfl, (blk_cell BK377.out 8).trans rfl, (blk_cell BK377.out 9).trans rfl, (blk_cell BK377.out 10).trans rfl⟩ (fun hHeld => ?_)
               clear hK K
               refine norm_ (a' := ?_) ?_ ?_
               rotate_left
               ·
                show Act.put _ (some 53) _ = _
                simp only [Act.put, List.setIfInBounds_toArray, List.set_cons_zero, List.set_cons_succ, i64_w, i32_w]
                rfl
               refine pure_ (i := 14) (N := some 39) (v := ?_) (a' := ?_) #[true,true,true,true,true,true,true,true,true,true,true,true,true,true,true,false,false,true,false,false] rfl rfl (any_of HT_.out (by kernel_rfl)) (fun _ _ _ h => h) (Or.inl ⟨by rfl, ?_⟩) ?_ ?_
               rotate_left
               ·
                intro w'
                go_simp
                with_reducible rfl
               rotate_left
               ·
                simp only [Act.put, List.setIfInBounds_toArray, List.set_cons_zero, List.set_cons_succ, i64_w, i32_w]
                rfl
               refine pure_ (i := 15) (N := some 54) (v := ?_) (a' := ?_) #[true,true,true,true,true,true,true,true,true,true,true,true,true,true,true,true,false,true,false,false] rfl rfl (any_of HT_.out (by kernel_rfl)) (fun _ _ _ h => h) (Or.inl ⟨by rfl, ?_⟩) ?_ ?_
               rotate_left
               ·
                intro w'
                go_simp
                with_reducible rfl
               rotate_left
               ·
                simp only [Act.put, List.setIfInBounds_toArray, List.set_cons_zero, List.set_cons_succ, i64_w, i32_w]
                rfl
               refine pure_ (i := 16) (N := some 55) (v := ?_) (a' := ?_) #[true,true,true,true,true,true,true,true,true,true,true,true,true,true,true,true,true,true,false,false] rfl rfl (any_of HT_.out (by kernel_rfl)) (fun _ _ _ h => h) (Or.inl ⟨by rfl, ?_⟩) ?_ ?_
               rotate_left
               ·
                intro w'
                go_simp
                with_reducible rfl
               rotate_left
               ·
                simp only [Act.put, List.setIfInBounds_toArray, List.set_cons_zero, List.set_cons_succ, i64_w, i32_w]
                rfl
               exact norm_ (by simp only [putAll, Act.put, List.setIfInBounds_toArray, List.set_cons_zero, List.set_cons_succ]) (hCont (v383, gb392) _ ⟨hHeld, (by (with_reducible repeat (first | apply Kd.R_alloc | apply Kd.R_drewN | apply Kd.R_drew)); exact HO384.out), blk_, blk_, blk_, GW392.out, GE392.out, NB377_392.out, NB392_377.out, NB378_392.out, NB392_378.out, bel_⟩)
             ·
              skip
              refine box_step ?hg (N := 11) ?hd (cs := #[.string (⟨#[]⟩ : ByteArray), .int .i64 0, .string (⟨#[]⟩ : ByteArray), .int .i64 0, .int .i64 0, .string (⟨#[]⟩ : ByteArray)]) (t := 26) ?hr ?_; (case hd => rfl); (case hg => rfl); (case hr => first | (go_simp; done) | (go_simp; rfl))
              intro gb392 hg w35 hbox hb
              have n0_ := Sd.mk (Kd.R_below (by (with_reducible repeat (first | apply Kd.R_alloc | apply Kd.R_drewN | apply Kd.R_drew)); exact HO384.out) hb)
              have n1_ := Sd.mk (blk_below (g := gb377) blk_ hb)
              have n2_ := Sd.mk (blk_below (g := gb378) blk_ hb)
              have n3_ := Sd.mk (below_step bel_ hb)
              have n4_ := Sd.mk (hbox)
              have n5_ := Sd.mk ((by rw [hg]; exact (below_size bel_) : w.heap.size ≤ gb392))
              have n6_ := Sd.mk ((by rw [hg]; exact (below_size bel_) : w.heap.size ≤ gb392))
              have n7_ := Sd.mk ((by rw [hg]; exact Nat.ne_of_lt (blk_lt (g := gb377) (o := .cells #[.int .i64 a0_0, .int .i64 a0_1, .int .i64 a0_2, .int .i64 a0_3, .int .i64 a0_4, .int .i64 a0_5, .int .i64 a0_6, .int .i64 a0_7, .int .i64 a0_8, .int .i64 a0_9, .slice A0_10 l0_10.length c0_10] 24 (0, 0)) blk_) : gb377 ≠ gb392))
              have n8_ := Sd.mk ((by rw [hg]; exact Nat.ne_of_gt (blk_lt (g := gb377) (o := .cells #[.int .i64 a0_0, .int .i64 a0_1, .int .i64 a0_2, .int .i64 a0_3, .int .i64 a0_4, .int .i64 a0_5, .int .i64 a0_6, .int .i64 a0_7, .int .i64 a0_8, .int .i64 a0_9, .slice A0_10 l0_10.length c0_10] 24 (0, 0)) blk_) : gb392 ≠ gb377))
              have n9_ := Sd.mk ((by rw [hg]; exact Nat.ne_of_lt (blk_lt (g := gb378) (o := .cells #[.string a1_0, .int .i64 a1_1, .string a1_2, .int .i64 a1_3, .int .i64 a1_4, .string a1_5] 26 (0, 0)) blk_) : gb378 ≠ gb392))
              have n10_ := Sd.mk ((by rw [hg]; exact Nat.ne_of_gt (blk_lt (g := gb378) (o := .cells #[.string a1_0, .int .i64 a1_1, .string a1_2, .int .i64 a1_3, .int .i64 a1_4, .string a1_5] 26 (0, 0)) blk_) : gb392 ≠ gb378))
              clear HO384
              clear BK377
              clear BK378
              clear HB
              have HO384 := n0_
              have BK377 := n1_
              have BK378 := n2_
              have HB := n3_
              have BK392 := n4_
              have GW392 := n5_
              have GE392 := n6_
              have NB377_392 := n7_
              have NB392_377 := n8_
              have NB378_392 := n9_
              have NB392_378 := n10_
              clear n0_ n1_ n2_ n3_ n4_ n5_ n6_ n7_ n8_ n9_ n10_
              clear hb hbox hg
              refine hK.out _ _ ⟨(blk_cell BK377.out 0).trans rfl, (blk_cell BK377.out 1).trans rfl, (blk_cell BK377.out 2).trans rfl, (blk_cell BK377.out 3).trans rfl, (blk_cell BK377.out 4).trans rfl, (blk_cell BK377.out 5).trans rfl, (blk_cell BK377.out 6).trans rfl, (blk_cell BK377.out 7).trans rfl, (blk_cell BK377.out 8).trans rfl, (blk_cell BK377.out 9).trans rfl, (blk_cell BK377.out 10).trans rfl⟩ (fun hHeld => ?_)
              clear hK K
              refine norm_ (a' := ?_) ?_ ?_
              rotate_left
              ·
               show Act.put _ (some 11) _ = _
               simp only [Act.put, List.setIfInBounds_toArray, List.set_cons_zero, List.set_cons_succ, i64_w, i32_w]
               rfl
              refine one_ (i := 6) (N := some 46) #[true,true,true,true,true,true,true,false,true,true,true,true,false,false,false,false,false,true,false,false] rfl rfl (one_of HT_.out (by kernel_rfl)) (by decide) (fun K hK => ?_)
              have hcv36 := own_string (P := Try.prog) Try.underlying44 Try.underlying5 Try.underlying9 (Kd.own_of_R HO384.out)
              refine value_ (w1 := ?_) (v := ?_) (by rfl) rfl ?_ ?_
              rotate_left 2
              ·
               go_simp
               constructor
               ·
                rfl
               ·
                rfl
              clear hcv36
              refine hK.out _ _ ⟨(blk_cell BK377.out 0).trans rfl, (blk_cell BK377.out 1).trans rfl, (blk_cell BK377.out 2).trans rfl, (blk_cell BK377.out 3).trans rfl, (blk_cell BK377.out 4).trans rfl, (blk_cell BK377.out 5).trans rfl, (blk_cell BK377.out 6).trans rfl, (blk_cell BK377.out 7).trans rfl, (blk_cell BK377.out 8).trans rfl, (blk_cell BK377.out 9).trans rfl, (blk_cell BK377.out 10).trans rfl⟩ (fun hHeld => ?_)
              clear hK K
              refine norm_ (a' := ?_) ?_ ?_
              rotate_left
              ·
               show Act.put _ (some 46) _ = _
               simp only [Act.put, List.setIfInBounds_toArray, List.set_cons_zero, List.set_cons_succ, i64_w, i32_w]
               rfl
              refine pure_ (i := 7) (N := some 47) (v := ?_) (a' := ?_) #[true,true,true,true,true,true,true,true,true,true,true,true,false,false,false,false,false,true,false,false] rfl rfl (any_of HT_.out (by kernel_rfl)) (fun _ _ _ h => h) (Or.inl ⟨by rfl, ?_⟩) ?_ ?_
              rotate_left
              ·
               intro w'
               go_simp
               with_reducible rfl
              rotate_left
              ·
               simp only [Act.put, List.setIfInBounds_toArray, List.set_cons_zero, List.set_cons_succ, i64_w, i32_w]
               rfl
              refine pure_ (i := 12) (N := some 52) (v := ?_) (a' := ?_) #[true,true,true,true,true,true,true,true,true,true,true,true,true,false,false,false,false,true,false,false] rfl rfl (any_of HT_.out (by kernel_rfl)) (fun _ _ _ h => h) (Or.inl ⟨by rfl, ?_⟩) ?_ ?_
              rotate_left
              ·
               intro w'
               go_simp
               with_reducible rfl
              rotate_left
              ·
               simp only [Act.put, List.setIfInBounds_toArray, List.set_cons_zero, List.set_cons_succ, i64_w, i32_w]
               rfl
              refine one_ (i := 13) (N := some 53) #[true,true,true,true,true,true,true,true,true,true,true,true,true,true,false,false,false,true,false,false] rfl rfl (one_of HT_.out (by kernel_rfl)) (by decide) (fun K hK => ?_)
              refine goes_ Try.func32 (by kernel_rfl) rfl #[.agg #[.int .i64 a0_0, .int .i64 a0_1, .int .i64 a0_2, .int .i64 a0_3, .int .i64 a0_4, .int .i64 a0_5, .int .i64 a0_6, .int .i64 a0_7, .int .i64 a0_8, .int .i64 a0_9, .slice A0_10 l0_10.length c0_10], .string (((t379.extract 0 (a2 : Int).toNat) ++ (strOfNums y382)) ++ (t379.extract ((ji25) : Int).toNat t379.size))] (by rfl) rfl rfl (by (try simp only [List.map_toArray, List.map_cons, List.map_nil]); first | done | (simp only [hji25]; rfl) | rfl | (simp only [List.length_drop, List.length_take]; rfl)) ?_
              with_reducible refine (wire_Decode.calls kj5 a0_0 a0_1 a0_2 a0_3 a0_4 a0_5 a0_6 a0_7 a0_8 a0_9 _ _ l0_10 (((t379.extract 0 (a2 : Int).toNat) ++ (strOfNums y382)) ++ (t379.extract ((ji25) : Int).toNat t379.size)) t385 t386 t387 t388 t389 t390 t391 _ ?side1 ?side2 A29.out).mono ?_
              (case side1 => repeat (first | exact (Kd.C_below HR0_10.out HB.out) | (with_reducible refine Kd.C_alloc ?_ _) | (with_reducible refine Kd.C_drewN ?_ _) | (with_reducible refine Kd.C_drew ?_)))
              (case side2 => exact HC0_10.out)
              rintro e w37 ⟨rfl, hb⟩
              refine ⟨_, rfl, ?_⟩
              have n0_ := Sd.mk (Kd.R_below (by (with_reducible repeat (first | apply Kd.R_alloc | apply Kd.R_drewN | apply Kd.R_drew)); exact HO384.out) hb)
              have n1_ := Sd.mk (blk_below (g := gb377) blk_ hb)
              have n2_ := Sd.mk (blk_below (g := gb378) blk_ hb)
              have n3_ := Sd.mk (blk_below (g := gb392) (o := .cells #[.string (⟨#[]⟩ : ByteArray), .int .i64 0, .string (⟨#[]⟩ : ByteArray), .int .i64 0, .int .i64 0, .string (⟨#[]⟩ : ByteArray)] 26 (0, 0)) blk_ hb)
              have n4_ := Sd.mk (below_step bel_ hb)
              clear HO384
              clear BK377
              clear BK378
              clear BK392
              clear HB
              have HO384 := n0_
              have BK377 := n1_
              have BK378 := n2_
              have BK392 := n3_
              have HB := n4_
              clear n0_ n1_ n2_ n3_ n4_
              (try clear hb)
              (try clear hb2)
              (try clear hk)
              (try clear hi)
              refine hK.out _ _ ⟨(blk_cell BK377.out 0).trans rfl, (blk_cell BK377.out 1).trans rfl, (blk_cell BK377.out 2).trans rfl, (blk_cell BK377.out 3).trans rfl, (blk_cell BK377.out 4).trans rfl, (blk_cell BK377.out 5).trans rfl, (blk_cell BK377.out 6).trans rfl, (blk_cell BK377.out 7).trans rfl, (blk_cell BK377.out 8).trans rfl, (blk_cell BK377.out 9).trans rfl, (blk_cell BK377.out 10).trans rfl⟩ (fun hHeld => ?_)
              clear hK K
              refine norm_ (a' := ?_) ?_ ?_
              rotate_left
              ·
               show Act.put _ (some 53) _ = _
               simp only [Act.put, List.setIfInBounds_toArray, List.set_cons_zero, List.set_cons_succ, i64_w, i32_w]
               rfl
              refine pure_ (i := 14) (N := some 39) (v := ?_) (a' := ?_) #[true,true,true,true,true,true,true,true,true,true,true,true,true,true,true,false,false,true,false,false] rfl rfl (any_of HT_.out (by kernel_rfl)) (fun _ _ _ h => h) (Or.inl ⟨by rfl, ?_⟩) ?_ ?_
              rotate_left
              ·
               intro w'
               go_simp
               with_reducible rfl
              rotate_left
              ·
               simp only [Act.put, List.setIfInBounds_toArray, List.set_cons_zero, List.set_cons_succ, i64_w, i32_w]
               rfl
              refine pure_ (i := 15) (N := some 54) (v := ?_) (a' := ?_) #[true,true,true,true,true,true,true,true,true,true,true,true,true,true,true,true,false,true,false,false] rfl rfl (any_of HT_.out (by kernel_rfl)) (fun _ _ _ h => h) (Or.inl ⟨by rfl, ?_⟩) ?_ ?_
              rotate_left
              ·
               intro w'
               go_simp
               with_reducible rfl
              rotate_left
              ·
               simp only [Act.put, List.setIfInBounds_toArray, List.set_cons_zero, List.set_cons_succ, i64_w, i32_w]
               rfl
              refine pure_ (i := 16) (N := some 55) (v := ?_) (a' := ?_) #[true,true,true,true,true,true,true,true,true,true,true,true,true,true,true,true,true,true,false,false] rfl rfl (any_of HT_.out (by kernel_rfl)) (fun _ _ _ h => h) (Or.inl ⟨by rfl, ?_⟩) ?_ ?_
              rotate_left
              ·
               intro w'
               go_simp
               with_reducible rfl
              rotate_left
              ·
               simp only [Act.put, List.setIfInBounds_toArray, List.set_cons_zero, List.set_cons_succ, i64_w, i32_w]
               rfl
              exact norm_ (by simp only [putAll, Act.put, List.setIfInBounds_toArray, List.set_cons_zero, List.set_cons_succ]) (hCont (v383, gb392) _ ⟨hHeld, (by (with_reducible repeat (first | apply Kd.R_alloc | apply Kd.R_drewN | apply Kd.R_drew)); exact HO384.out), blk_, blk_, blk_, GW392.out, GE392.out, NB377_392.out, NB392_377.out, NB378_392.out, NB392_378.out, bel_⟩)
            ·
             skip
             refine box_step ?hg (N := 11) ?hd (cs := #[.string (⟨#[]⟩ : ByteArray), .int .i64 0, .string (⟨#[]⟩ : ByteArray), .int .i64 0, .int .i64 0, .string (⟨#[]⟩ : ByteArray)]) (t := 26) ?hr ?_; (case hd => rfl); (case hg => rfl); (case hr => first | (go_simp; done) | (go_simp; rfl))
             intro gb392 hg w33 hbox hb
             have n0_ := Sd.mk (blk_below (g := gb377) blk_ hb)
             have n1_ := Sd.mk (blk_below (g := gb378) blk_ hb)
             have n2_ := Sd.mk (below_step bel_ hb)
             have n3_ := Sd.mk (hbox)
             have n4_ := Sd.mk ((by rw [hg]; exact (below_size bel_) : w.heap.size ≤ gb392))
             have n5_ := Sd.mk ((by rw [hg]; exact (below_size bel_) : w.heap.size ≤ gb392))
             have n6_ := Sd.mk ((by rw [hg]; exact Nat.ne_of_lt (blk_lt (g := gb377) (o := .cells #[.int .i64 a0_0, .int .i64 a0_1, .int .i64 a0_2, .int .i64 a0_3, .int .i64 a0_4, .int .i64 a0_5, .int .i64 a0_6, .int .i64 a0_7, .int .i64 a0_8, .int .i64 a0_9, .slice A0_10 l0_10.length c0_10] 24 (0, 0)) blk_) : gb377 ≠ gb392))
             have n7_ := Sd.mk ((by rw [hg]; exact Nat.ne_of_gt (blk_lt (g := gb377) (o := .cells #[.int .i64 a0_0, .int .i64 a0_1, .int .i64 a0_2, .int .i64 a0_3, .int .i64 a0_4, .int .i64 a0_5, .int .i64 a0_6, .int .i64 a0_7, .int .i64 a0_8, .int .i64 a0_9, .slice A0_10 l0_10.length c0_10] 24 (0, 0)) blk_) : gb392 ≠ gb377))
             have n8_ := Sd.mk ((by rw [hg]; exact Nat.ne_of_lt (blk_lt (g := gb378) (o := .cells #[.string a1_0, .int .i64 a1_1, .string a1_2, .int .i64 a1_3, .int .i64 a1_4, .string a1_5] 26 (0, 0)) blk_) : gb378 ≠ gb392))
             have n9_ := Sd.mk ((by rw [hg]; exact Nat.ne_of_gt (blk_lt (g := gb378) (o := .cells #[.string a1_0, .int .i64 a1_1, .string a1_2, .int .i64 a1_3, .int .i64 a1_4, .string a1_5] 26 (0, 0)) blk_) : gb392 ≠ gb378))
             clear BK377
             clear BK378
             clear HB
             have BK377 := n0_
             have BK378 := n1_
             have HB := n2_
             have BK392 := n3_
             have GW392 := n4_
             have GE392 := n5_
             have NB377_392 := n6_
             have NB392_377 := n7_
             have NB378_392 := n8_
             have NB392_378 := n9_
             clear n0_ n1_ n2_ n3_ n4_ n5_ n6_ n7_ n8_ n9_
             clear hb hbox hg
             refine hK.out _ _ ⟨(blk_cell BK377.out 0).trans rfl, (blk_cell BK377.out 1).trans rfl, (blk_cell BK377.out 2).trans rfl, (blk_cell BK377.out 3).trans rfl, (blk_cell BK377.out 4).trans rfl, (blk_cell BK377.out 5).trans rfl, (blk_cell BK377.out 6).trans rfl, (blk_cell BK377.out 7).trans rfl, (blk_cell BK377.out 8).trans rfl, (blk_cell BK377.out 9).trans rfl, (blk_cell BK377.out 10).trans rfl⟩ (fun hHeld => ?_)
             clear hK K
             refine norm_ (a' := ?_) ?_ ?_
             rotate_left
             ·
              show Act.put _ (some 11) _ = _
              simp only [Act.put, List.setIfInBounds_toArray, List.set_cons_zero, List.set_cons_succ, i64_w, i32_w]
              rfl
             refine one_ (i := 5) (N := some 45) #[true,true,true,true,true,true,false,false,true,true,true,true,false,false,false,false,false,true,false,false] rfl rfl (one_of HT_.out (by kernel_rfl)) (by decide) (fun K hK => ?_)
             refine Kd.R_lit_step (Kd.int .u8) _ 5 ?hg (N := 45) ?hd (xs := ([a3] : List Int)) (inner := [.int .u8 a3]) (ok := fun _ => True) (okp := fun _ => True) ?hr ?hp (fun _ hk => hk) trivial (Below.refl _ _) (Nat.le_refl _) (by simp) ?_; (case hd => rfl); (case hg => rfl); (case hr => first | (go_simp; done) | (go_simp; rfl)); (case hp => exact (Reps.one (show Kd.M (Kd.int .u8) _ _ _ a3 [.int .u8 a3] from rfl) (Reps.none _ _)))
             intro v383 w34 ho35 hb hg_ hnew_
             clear hg_ hnew_
             (first | rw [← Ny382.out] at ho35 | (simp only [Int.reduceToNat] at ho35; rw [← Ny382.out] at ho35))
             have n0_ := Sd.mk (Kd.R_lower ho35 (below_size bel_))
             have n1_ := Sd.mk (blk_below (g := gb377) blk_ hb)
             have n2_ := Sd.mk (blk_below (g := gb378) blk_ hb)
             have n3_ := Sd.mk (blk_below (g := gb392) (o := .cells #[.string (⟨#[]⟩ : ByteArray), .int .i64 0, .string (⟨#[]⟩ : ByteArray), .int .i64 0, .int .i64 0, .string (⟨#[]⟩ : ByteArray)] 26 (0, 0)) blk_ hb)
             have n4_ := Sd.mk (below_step bel_ hb)
             clear BK377
             clear BK378
             clear BK392
             clear HB
             have HO384 := n0_
             have BK377 := n1_
             have BK378 := n2_
             have BK392 := n3_
             have HB := n4_
             clear n0_ n1_ n2_ n3_ n4_
             clear hb ho35
             refine hK.out _ _ ⟨(blk_cell BK377.out 0).trans rfl, (blk_cell BK377.out 1).trans rfl, (blk_cell BK377.out 2).trans rfl, (blk_cell BK377.out 3).trans rfl, (blk_cell BK377.out 4).trans rfl, (blk_cell BK377.out 5).trans rfl, (blk_cell BK377.out 6).trans rfl, (blk_cell BK377.out 7).trans rfl, (blk_cell BK377.out 8).trans rfl, (blk_cell BK377.out 9).trans rfl, (blk_cell BK377.out 10).trans rfl⟩ (fun hHeld => ?_)
             clear hK K
             refine norm_ (a' := ?_) ?_ ?_
             rotate_left
             ·
              show Act.put _ (some 45) _ = _
              simp only [Act.put, List.setIfInBounds_toArray, List.set_cons_zero, List.set_cons_succ, i64_w, i32_w]
              rfl
             refine one_ (i := 6) (N := some 46) #[true,true,true,true,true,true,true,false,true,true,true,true,false,false,false,false,false,true,false,false] rfl rfl (one_of HT_.out (by kernel_rfl)) (by decide) (fun K hK => ?_)
             have hcv36 := own_string (P := Try.prog) Try.underlying44 Try.underlying5 Try.underlying9 (Kd.own_of_R HO384.out)
             refine value_ (w1 := ?_) (v := ?_) (by rfl) rfl ?_ ?_
             rotate_left 2
             ·
              go_simp
              constructor
              ·
               rfl
              ·
               rfl
             clear hcv36
             refine hK.out _ _ ⟨(blk_cell BK377.out 0).trans rfl, (blk_cell BK377.out 1).trans rfl, (blk_cell BK377.out 2).trans rfl, (blk_cell BK377.out 3).trans rfl, (blk_cell BK377.out 4).trans rfl, (blk_cell BK377.out 5).trans rfl, (blk_cell BK377.out 6).trans rfl, (blk_cell BK377.out 7).trans rfl, (blk_cell BK377.out 8).trans rfl, (blk_cell BK377.out 9).trans rfl, (blk_cell BK377.out 10).trans rfl⟩ (fun hHeld => ?_)
             clear hK K
             refine norm_ (a' := ?_) ?_ ?_
             rotate_left
             ·
              show Act.put _ (some 46) _ = _
              simp only [Act.put, List.setIfInBounds_toArray, List.set_cons_zero, List.set_cons_succ, i64_w, i32_w]
              rfl
             refine pure_ (i := 7) (N := some 47) (v := ?_) (a' := ?_) #[true,true,true,true,true,true,true,true,true,true,true,true,false,false,false,false,false,true,false,false] rfl rfl (any_of HT_.out (by kernel_rfl)) (fun _ _ _ h => h) (Or.inl ⟨by rfl, ?_⟩) ?_ ?_
             rotate_left
             ·
              intro w'
              go_simp
              with_reducible rfl
             rotate_left
             ·
              simp only [Act.put, List.setIfInBounds_toArray, List.set_cons_zero, List.set_cons_succ, i64_w, i32_w]
              rfl
             refine pure_ (i := 12) (N := some 52) (v := ?_) (a' := ?_) #[true,true,true,true,true,true,true,true,true,true,true,true,true,false,false,false,false,true,false,false] rfl rfl (any_of HT_.out (by kernel_rfl)) (fun _ _ _ h => h) (Or.inl ⟨by rfl, ?_⟩) ?_ ?_
             rotate_left
             ·
              intro w'
              go_simp
              with_reducible rfl
             rotate_left
             ·
              simp only [Act.put, List.setIfInBounds_toArray, List.set_cons_zero, List.set_cons_succ, i64_w, i32_w]
              rfl
             refine one_ (i := 13) (N := some 53) #[true,true,true,true,true,true,true,true,true,true,true,true,true,true,false,false,false,true,false,false] rfl rfl (one_of HT_.out (by kernel_rfl)) (by decide) (fun K hK => ?_)
             refine goes_ Try.func32 (by kernel_rfl) rfl #[.agg #[.int .i64 a0_0, .int .i64 a0_1, .int .i64 a0_2, .int .i64 a0_3, .int .i64 a0_4, .int .i64 a0_5, .int .i64 a0_6, .int .i64 a0_7, .int .i64 a0_8, .int .i64 a0_9, .slice A0_10 l0_10.length c0_10], .string (((t379.extract 0 (a2 : Int).toNat) ++ (strOfNums y382)) ++ (t379.extract ((ji25) : Int).toNat t379.size))] (by rfl) rfl rfl (by (try simp only [List.map_toArray, List.map_cons, List.map_nil]); first | done | (simp only [hji25]; rfl) | rfl | (simp only [List.length_drop, List.length_take]; rfl)) ?_
             with_reducible refine (wire_Decode.calls kj5 a0_0 a0_1 a0_2 a0_3 a0_4 a0_5 a0_6 a0_7 a0_8 a0_9 _ _ l0_10 (((t379.extract 0 (a2 : Int).toNat) ++ (strOfNums y382)) ++ (t379.extract ((ji25) : Int).toNat t379.size)) t385 t386 t387 t388 t389 t390 t391 _ ?side1 ?side2 A29.out).mono ?_
             (case side1 => repeat (first | exact (Kd.C_below HR0_10.out HB.out) | (with_reducible refine Kd.C_alloc ?_ _) | (with_reducible refine Kd.C_drewN ?_ _) | (with_reducible refine Kd.C_drew ?_)))
             (case side2 => exact HC0_10.out)
             rintro e w37 ⟨rfl, hb⟩
             refine ⟨_, rfl, ?_⟩
             have n0_ := Sd.mk (Kd.R_below (by (with_reducible repeat (first | apply Kd.R_alloc | apply Kd.R_drewN | apply Kd.R_drew)); exact HO384.out) hb)
             have n1_ := Sd.mk (blk_below (g := gb377) blk_ hb)
             have n2_ := Sd.mk (blk_below (g := gb378) blk_ hb)
             have n3_ := Sd.mk (blk_below (g := gb392) (o := .cells #[.string (⟨#[]⟩ : ByteArray), .int .i64 0, .string (⟨#[]⟩ : ByteArray), .int .i64 0, .int .i64 0, .string (⟨#[]⟩ : ByteArray)] 26 (0, 0)) blk_ hb)
             have n4_ := Sd.mk (below_step bel_ hb)
             clear HO384
             clear BK377
             clear BK378
             clear BK392
             clear HB
             have HO384 := n0_
             have BK377 := n1_
             have BK378 := n2_
             have BK392 := n3_
             have HB := n4_
             clear n0_ n1_ n2_ n3_ n4_
             (try clear hb)
             (try clear hb2)
             (try clear hk)
             (try clear hi)
             refine hK.out _ _ ⟨(blk_cell BK377.out 0).trans rfl, (blk_cell BK377.out 1).trans rfl, (blk_cell BK377.out 2).trans rfl, (blk_cell BK377.out 3).trans rfl, (blk_cell BK377.out 4).trans rfl, (blk_cell BK377.out 5).trans rfl, (blk_cell BK377.out 6).trans rfl, (blk_cell BK377.out 7).trans rfl, (blk_cell BK377.out 8).trans rfl, (blk_cell BK377.out 9).trans rfl, (blk_cell BK377.out 10).trans rfl⟩ (fun hHeld => ?_)
             clear hK K
             refine norm_ (a' := ?_) ?_ ?_
             rotate_left
             ·
              show Act.put _ (some 53) _ = _
              simp only [Act.put, List.setIfInBounds_toArray, List.set_cons_zero, List.set_cons_succ, i64_w, i32_w]
              rfl
             refine pure_ (i := 14) (N := some 39) (v := ?_) (a' := ?_) #[true,true,true,true,true,true,true,true,true,true,true,true,true,true,true,false,false,true,false,false] rfl rfl (any_of HT_.out (by kernel_rfl)) (fun _ _ _ h => h) (Or.inl ⟨by rfl, ?_⟩) ?_ ?_
             rotate_left
             ·
              intro w'
              go_simp
              with_reducible rfl
             rotate_left
             ·
              simp only [Act.put, List.setIfInBounds_toArray, List.set_cons_zero, List.set_cons_succ, i64_w, i32_w]
              rfl
             refine pure_ (i := 15) (N := some 54) (v := ?_) (a' := ?_) #[true,true,true,true,true,true,true,true,true,true,true,true,true,true,true,true,false,true,false,false] rfl rfl (any_of HT_.out (by kernel_rfl)) (fun _ _ _ h => h) (Or.inl ⟨by rfl, ?_⟩) ?_ ?_
             rotate_left
             ·
              intro w'
              go_simp
              with_reducible rfl
             rotate_left
             ·
              simp only [Act.put, List.setIfInBounds_toArray, List.set_cons_zero, List.set_cons_succ, i64_w, i32_w]
              rfl
             refine pure_ (i := 16) (N := some 55) (v := ?_) (a' := ?_) #[true,true,true,true,true,true,true,true,true,true,true,true,true,true,true,true,true,true,false,false] rfl rfl (any_of HT_.out (by kernel_rfl)) (fun _ _ _ h => h) (Or.inl ⟨by rfl, ?_⟩) ?_ ?_
             rotate_left
             ·
              intro w'
              go_simp
              with_reducible rfl
             rotate_left
             ·
              simp only [Act.put, List.setIfInBounds_toArray, List.set_cons_zero, List.set_cons_succ, i64_w, i32_w]
              rfl
             exact norm_ (by simp only [putAll, Act.put, List.setIfInBounds_toArray, List.set_cons_zero, List.set_cons_succ]) (hCont (v383, gb392) _ ⟨hHeld, (by (with_reducible repeat (first | apply Kd.R_alloc | apply Kd.R_drewN | apply Kd.R_drew)); exact HO384.out), blk_, blk_, blk_, GW392.out, GE392.out, NB377_392.out, NB392_377.out, NB378_392.out, NB392_378.out, bel_⟩)
           rintro ⟨v383, gb392⟩ w38 ⟨hS_, h0_, h1_, h2_, h3_, h4_, h5_, h6_, h7_, h8_, h9_, h10_⟩
           have n0_ : Sd (Kd.R (Kd.int .u8) 5 w38 w.heap.size (fun _ => True) v383 y382) := ⟨h0_⟩
           have n1_ : Sd (w38.heap[gb377]? = some (.cells #[.int .i64 a0_0, .int .i64 a0_1, .int .i64 a0_2, .int .i64 a0_3, .int .i64 a0_4, .int .i64 a0_5, .int .i64 a0_6, .int .i64 a0_7, .int .i64 a0_8, .int .i64 a0_9, .slice A0_10 l0_10.length c0_10] 24 (0, 0))) := ⟨h1_⟩
           have n2_ : Sd (w38.heap[gb378]? = some (.cells #[.string a1_0, .int .i64 a1_1, .string a1_2, .int .i64 a1_3, .int .i64 a1_4, .string a1_5] 26 (0, 0))) := ⟨h2_⟩
           have n3_ : Sd (w38.heap[gb392]? = some (.cells #[.string (⟨#[]⟩ : ByteArray), .int .i64 0, .string (⟨#[]⟩ : ByteArray), .int .i64 0, .int .i64 0, .string (⟨#[]⟩ : ByteArray)] 26 (0, 0))) := ⟨h3_⟩
           have n4_ : Sd (w.heap.size ≤ gb392) := ⟨h4_⟩
           have n5_ : Sd (w.heap.size ≤ gb392) := ⟨h5_⟩
           have n6_ : Sd (gb377 ≠ gb392) := ⟨h6_⟩
           have n7_ : Sd (gb392 ≠ gb377) := ⟨h7_⟩
           have n8_ : Sd (gb378 ≠ gb392) := ⟨h8_⟩
           have n9_ : Sd (gb392 ≠ gb378) := ⟨h9_⟩
           have n10_ : Sd (Below w.heap.size w w38) := ⟨h10_⟩
           clear BK377
           clear BK378
           clear HB
           clear h0_ h1_ h2_ h3_ h4_ h5_ h6_ h7_ h8_ h9_ h10_
           have HO384 := n0_
           have BK377 := n1_
           have BK378 := n2_
           have BK392 := n3_
           have GW392 := n4_
           have GE392 := n5_
           have NB377_392 := n6_
           have NB392_377 := n7_
           have NB378_392 := n8_
           have NB392_378 := n9_
           have HB := n10_
           clear n0_ n1_ n2_ n3_ n4_ n5_ n6_ n7_ n8_ n9_ n10_
           have hHeld : w38.cell? ⟨gb377, 0, none⟩ = some (.int .i64 a0_0) ∧ w38.cell? ⟨gb377, 1, none⟩ = some (.int .i64 a0_1) ∧ w38.cell? ⟨gb377, 2, none⟩ = some (.int .i64 a0_2) ∧ w38.cell? ⟨gb377, 3, none⟩ = some (.int .i64 a0_3) ∧ w38.cell? ⟨gb377, 4, none⟩ = some (.int .i64 a0_4) ∧ w38.cell? ⟨gb377, 5, none⟩ = some (.int .i64 a0_5) ∧ w38.cell? ⟨gb377, 6, none⟩ = some (.int .i64 a0_6) ∧ w38.cell? ⟨gb377, 7, none⟩ = some (.int .i64 a0_7) ∧ w38.cell? ⟨gb377, 8, none⟩ = some (.int .i64 a0_8) ∧ w38.cell? ⟨gb377, 9, none⟩ = some (.int .i64 a0_9) ∧ w38.cell? ⟨gb377, 10, none⟩ = some (.slice A0_10 l0_10.length c0_10) := hS_
           refine norm_ (a' := ?_) ?_ ?_
           rotate_left
           ·
            simp only [putAll, Act.put, List.setIfInBounds_toArray, List.set_cons_zero, List.set_cons_succ]
            rfl
           refine one_ (i := 18) (N := none) #[true,true,true,true,true,true,true,true,true,true,true,true,true,true,true,true,true,true,true,false] rfl rfl (one_of HT_.out (by kernel_rfl)) (by decide) (fun K hK => ?_)
           have hs39 : w38.cell? ⟨gb392, 0, none⟩ = some (.string (⟨#[]⟩ : ByteArray)) := (blk_cell BK392.out 0).trans rfl
           have hfs39 := blk_frozen BK392.out 0
           have hns39_0 := NB377_392.out
           have hns39_1 := NB378_392.out
           have hms39_0 := NB392_377.out
           have hms39_1 := NB392_378.out
           have hs40 : w38.cell? ⟨gb392, 1, none⟩ = some (.int .i64 0) := (blk_cell BK392.out 1).trans rfl
           have hfs40 := blk_frozen BK392.out 1
           have hns40_0 := NB377_392.out
           have hns40_1 := NB378_392.out
           have hms40_0 := NB392_377.out
           have hms40_1 := NB392_378.out
           have hs41 : w38.cell? ⟨gb392, 2, none⟩ = some (.string (⟨#[]⟩ : ByteArray)) := (blk_cell BK392.out 2).trans rfl
           have hfs41 := blk_frozen BK392.out 2
           have hns41_0 := NB377_392.out
           have hns41_1 := NB378_392.out
           have hms41_0 := NB392_377.out
           have hms41_1 := NB392_378.out
           have hs42 : w38.cell? ⟨gb392, 3, none⟩ = some (.int .i64 0) := (blk_cell BK392.out 3).trans rfl
           have hfs42 := blk_frozen BK392.out 3
           have hns42_0 := NB377_392.out
           have hns42_1 := NB378_392.out
           have hms42_0 := NB392_377.out
           have hms42_1 := NB392_378.out
           have hs43 : w38.cell? ⟨gb392, 4, none⟩ = some (.int .i64 0) := (blk_cell BK392.out 4).trans rfl
           have hfs43 := blk_frozen BK392.out 4
           have hns43_0 := NB377_392.out
           have hns43_1 := NB378_392.out
           have hms43_0 := NB392_377.out
           have hms43_1 := NB392_378.out
           have hs44 : w38.cell? ⟨gb392, 5, none⟩ = some (.string (⟨#[]⟩ : ByteArray)) := (blk_cell BK392.out 5).trans rfl
           have hfs44 := blk_frozen BK392.out 5
           have hns44_0 := NB377_392.out
           have hns44_1 := NB378_392.out
           have hms44_0 := NB392_377.out
           have hms44_1 := NB392_378.out
           refine skip_ (w1 := ?_) (by rfl) rfl ?_ ?_
           rotate_left
           ·
            go_simp
            rfl
           refine hK.out _ _ ⟨((cell_far (p := ⟨gb392, _, none⟩) NB377_392.out _).trans (((cell_far (p := ⟨gb392, _, none⟩) NB377_392.out _).trans (((cell_far (p := ⟨gb392, _, none⟩) NB377_392.out _).trans (((cell_far (p := ⟨gb392, _, none⟩) NB377_392.out _).trans (((cell_far (p := ⟨gb392, _, none⟩) NB377_392.out _).trans (((cell_far (p := ⟨gb392, _, none⟩) NB377_392.out _).trans (hHeld.1)))))))))))), ((cell_far (p := ⟨gb392, _, none⟩) NB377_392.out _).trans (((cell_far (p := ⟨gb392, _, none⟩) NB377_392.out _).trans (((cell_far (p := ⟨gb392, _, none⟩) NB377_392.out _).trans (((cell_far (p := ⟨gb392, _, none⟩) NB377_392.out _).trans (((cell_far (p := ⟨gb392, _, none⟩) NB377_392.out _).trans (((cell_far (p := ⟨gb392, _, none⟩) NB377_392.out _).trans (hHeld.2.1)))))))))))), ((cell_far (p := ⟨gb392, _, none⟩) NB377_392.out _).trans (((cell_far (p := ⟨gb392, _, none⟩) NB377_392.out _).trans (((cell_far (p := ⟨gb392, _, none⟩) NB377_392.out _).trans (((cell_far (p := ⟨gb392, _, none⟩) NB377_392.out _).trans (((cell_far (p := ⟨gb392, _, none⟩) NB377_392.out _).trans (((cell_far (p := ⟨gb392, _, none⟩) NB377_392.out _).trans (hHeld.2.2.1)))))))))))), ((cell_far (p := ⟨gb392, _, none⟩) NB377_392.out _).trans (((cell_far (p := ⟨gb392, _, none⟩) NB377_392.out _).trans (((cell_far (p := ⟨gb392, _, none⟩) NB377_392.out _).trans (((cell_far (p := ⟨gb392, _, none⟩) NB377_392.out _).trans (((cell_far (p := ⟨gb392, _, none⟩) NB377_392.out _).trans (((cell_far (p := ⟨gb392, _, none⟩) NB377_392.out _).trans (hHeld.2.2.2.1)))))))))))), ((cell_far (p := ⟨gb392, _, none⟩) NB377_392.out _).trans (((cell_far (p := ⟨gb392, _, none⟩) NB377_392.out _).trans (((cell_far (p := ⟨gb392, _, none⟩) NB377_392.out _).trans (((cell_far (p := ⟨gb392, _, none⟩) NB377_392.out _).trans (((cell_far (p := ⟨gb392, _, none⟩) NB377_392.out _).trans (((cell_far (p := ⟨gb392, _, none⟩) NB377_392.out _).trans (hHeld.2.2.2.2.1)))))))))))), ((cell_far (p := ⟨gb392, _, none⟩) NB377_392.out _).trans (((cell_far (p := ⟨gb392, _, none⟩) NB377_392.out _).trans (((cell_far (p := ⟨gb392, _, none⟩) NB377_392.out _).trans (((cell_far (p := ⟨gb392, _, none⟩) NB377_392.out _).trans (((cell_far (p := ⟨gb392, _, none⟩) NB377_392.out _).trans (((cell_far (p := ⟨gb392, _, none⟩) NB377_392.out _).trans (hHeld.2.2.2.2.2.1)))))))))))), ((cell_far (p := ⟨gb392, _, none⟩) NB377_392.out _).trans (((cell_far (p := ⟨gb392, _, none⟩) NB377_392.out _).trans (((cell_far (p := ⟨gb392, _, none⟩) NB377_392.out _).trans (((cell_far (p := ⟨gb392, _, none⟩) NB377_392.out _).trans (((cell_far (p := ⟨gb392, _, none⟩) NB377_392.out _).trans (((cell_far (p := ⟨gb392, _, none⟩) NB377_392.out _).trans (hHeld.2.2.2.2.2.2.1)))))))))))), ((cell_far (p := ⟨gb392, _, none⟩) NB377_392.out _).trans (((cell_far (p := ⟨gb392, _, none⟩) NB377_392.out _).trans (((cell_far (p := ⟨gb392, _, none⟩) NB377_392.out _).trans (((cell_far (p := ⟨gb392, _, none⟩) NB377_392.out _).trans (((cell_far (p := ⟨gb392, _, none⟩) NB377_392.out _).trans (((cell_far (p := ⟨gb392, _, none⟩) NB377_392.out _).trans (hHeld.2.2.2.2.2.2.2.1)))))))))))), ((cell_far (p := ⟨gb392, _, none⟩) NB377_392.out _).trans (((cell_far (p := ⟨gb392, _, none⟩) NB377_392.out _).trans (((cell_far (p := ⟨gb392, _, none⟩) NB377_392.out _).trans (((cell_far (p := ⟨gb392, _, none⟩) NB377_392.out _).trans (((cell_far (p := ⟨gb392, _, none⟩) NB377_392.out _).trans (((cell_far (p := ⟨gb392, _, none⟩) NB377_392.out _).trans (hHeld.2.2.2.2.2.2.2.2.1)))))))))))), ((cell_far (p := ⟨gb392, _, none⟩) NB377_392.out _).trans (((cell_far (p := ⟨gb392, _, none⟩) NB377_392.out _).trans (((cell_far (p := ⟨gb392, _, none⟩) NB377_392.out _).trans (((cell_far (p := ⟨gb392, _, none⟩) NB377_392.out _).trans (((cell_far (p := ⟨gb392, _, none⟩) NB377_392.out _).trans (((cell_far (p := ⟨gb392, _, none⟩) NB377_392.out _).trans (hHeld.2.2.2.2.2.2.2.2.2.1)))))))))))), ((cell_far (p := ⟨gb392, _, none⟩) NB377_392.out _).trans (((cell_far (p := ⟨gb392, _, none⟩) NB377_392.out _).trans (((cell_far (p := ⟨gb392, _, none⟩) NB377_392.out _).trans (((cell_far (p := ⟨gb392, _, none⟩) NB377_392.out _).trans (((cell_far (p := ⟨gb392, _, none⟩) NB377_392.out _).trans (((cell_far (p := ⟨gb392, _, none⟩) NB377_392.out _).trans (hHeld.2.2.2.2.2.2.2.2.2.2))))))))))))⟩ (fun hHeld => ?_)
           clear hK K
           refine pure_ (i := 19) (N := some 12) (v := ?_) (a' := ?_) #[true,true,true,true,true,true,true,true,true,true,true,true,true,true,true,true,true,true,true,true] rfl rfl (any_of HT_.out (by kernel_rfl)) (fun _ _ _ h => h) (Or.inl ⟨by rfl, ?_⟩) ?_ ?_
           rotate_left
           ·
            intro w'
            go_simp
            with_reducible rfl
           rotate_left
           ·
            simp only [Act.put, List.setIfInBounds_toArray, List.set_cons_zero, List.set_cons_succ, i64_w, i32_w]
            rfl
           refine done_ (done_of HT_.out (by kernel_rfl)) ?_
           try go_wp2_with (first | (go_at_call 31; (with_reducible refine (l11known.calls kj5  t393 _ A31.out).mono ?_); rintro e w45 ⟨rfl, hb⟩; have n0_ := Sd.mk (Kd.R_below (by (with_reducible repeat (first | apply Kd.R_alloc | apply Kd.R_drewN | apply Kd.R_drew)); exact (Kd.R_mono (Kd.R_far (p := ⟨gb392, 5, none⟩) (Kd.R_far (p := ⟨gb392, 4, none⟩) (Kd.R_far (p := ⟨gb392, 3, none⟩) (Kd.R_far (p := ⟨gb392, 2, none⟩) (Kd.R_far (p := ⟨gb392, 1, none⟩) (Kd.R_far (p := ⟨gb392, 0, none⟩) (Kd.R_types HO384.out BK392.out (by decide)) (fun _ hk => hk.2) (.string t385)) (fun _ hk => hk.2) (.int .i64 t386)) (fun _ hk => hk.2) (.string t387)) (fun _ hk => hk.2) (.int .i64 t388)) (fun _ hk => hk.2) (.int .i64 t389)) (fun _ hk => hk.2) (.string t390)) (fun _ h_ => h_.1))) hb); have n1_ := Sd.mk (blk_below (g := gb377) (o := .cells #[.int .i64 a0_0, .int .i64 a0_1, .int .i64 a0_2, .int .i64 a0_3, .int .i64 a0_4, .int .i64 a0_5, .int .i64 a0_6, .int .i64 a0_7, .int .i64 a0_8, .int .i64 a0_9, .slice A0_10 l0_10.length c0_10] 24 (0, 0)) (by (with_reducible repeat (first | refine blk_drewN ?_ _ | refine blk_drew ?_ | refine blk_alloc ?_ _)); refine blk_far ?_ NB377_392.out _; (with_reducible repeat (first | refine blk_drewN ?_ _ | refine blk_drew ?_ | refine blk_alloc ?_ _)); refine blk_far ?_ NB377_392.out _; (with_reducible repeat (first | refine blk_drewN ?_ _ | refine blk_drew ?_ | refine blk_alloc ?_ _)); refine blk_far ?_ NB377_392.out _; (with_reducible repeat (first | refine blk_drewN ?_ _ | refine blk_drew ?_ | refine blk_alloc ?_ _)); refine blk_far ?_ NB377_392.out _; (with_reducible repeat (first | refine blk_drewN ?_ _ | refine blk_drew ?_ | refine blk_alloc ?_ _)); refine blk_far ?_ NB377_392.out _; (with_reducible repeat (first | refine blk_drewN ?_ _ | refine blk_drew ?_ | refine blk_alloc ?_ _)); refine blk_far ?_ NB377_392.out _; (with_reducible repeat (first | refine blk_drewN ?_ _ | refine blk_drew ?_ | refine blk_alloc ?_ _)); exact BK377.out) hb); have n2_ := Sd.mk (blk_below (g := gb378) (o := .cells #[.string a1_0, .int .i64 a1_1, .string a1_2, .int .i64 a1_3, .int .i64 a1_4, .string a1_5] 26 (0, 0)) (by (with_reducible repeat (first | refine blk_drewN ?_ _ | refine blk_drew ?_ | refine blk_alloc ?_ _)); refine blk_far ?_ NB378_392.out _; (with_reducible repeat (first | refine blk_drewN ?_ _ | refine blk_drew ?_ | refine blk_alloc ?_ _)); refine blk_far ?_ NB378_392.out _; (with_reducible repeat (first | refine blk_drewN ?_ _ | refine blk_drew ?_ | refine blk_alloc ?_ _)); refine blk_far ?_ NB378_392.out _; (with_reducible repeat (first | refine blk_drewN ?_ _ | refine blk_drew ?_ | refine blk_alloc ?_ _)); refine blk_far ?_ NB378_392.out _; (with_reducible repeat (first | refine blk_drewN ?_ _ | refine blk_drew ?_ | refine blk_alloc ?_ _)); refine blk_far ?_ NB378_392.out _; (with_reducible repeat (first | refine blk_drewN ?_ _ | refine blk_drew ?_ | refine blk_alloc ?_ _)); refine blk_far ?_ NB378_392.out _; (with_reducible repeat (first | refine blk_drewN ?_ _ | refine blk_drew ?_ | refine blk_alloc ?_ _)); exact BK378.out) hb); have n3_ := Sd.mk (blk_below (g := gb392) (o := .cells #[.string t385, .int .i64 t386, .string t387, .int .i64 t388, .int .i64 t389, .string t390] 26 (0, 0)) (by (with_reducible repeat (first | refine blk_drewN ?_ _ | refine blk_drew ?_ | refine blk_alloc ?_ _)); refine blk_put (cs := #[.string t385, .int .i64 t386, .string t387, .int .i64 t388, .int .i64 t389, .string (⟨#[]⟩ : ByteArray)]) ?_ 5 _ rfl; (with_reducible repeat (first | refine blk_drewN ?_ _ | refine blk_drew ?_ | refine blk_alloc ?_ _)); refine blk_put (cs := #[.string t385, .int .i64 t386, .string t387, .int .i64 t388, .int .i64 0, .string (⟨#[]⟩ : ByteArray)]) ?_ 4 _ rfl; (with_reducible repeat (first | refine blk_drewN ?_ _ | refine blk_drew ?_ | refine blk_alloc ?_ _)); refine blk_put (cs := #[.string t385, .int .i64 t386, .string t387, .int .i64 0, .int .i64 0, .string (⟨#[]⟩ : ByteArray)]) ?_ 3 _ rfl; (with_reducible repeat (first | refine blk_drewN ?_ _ | refine blk_drew ?_ | refine blk_alloc ?_ _)); refine blk_put (cs := #[.string t385, .int .i64 t386, .string (⟨#[]⟩ : ByteArray), .int .i64 0, .int .i64 0, .string (⟨#[]⟩ : ByteArray)]) ?_ 2 _ rfl; (with_reducible repeat (first | refine blk_drewN ?_ _ | refine blk_drew ?_ | refine blk_alloc ?_ _)); refine blk_put (cs := #[.string t385, .int .i64 0, .string (⟨#[]⟩ : ByteArray), .int .i64 0, .int .i64 0, .string (⟨#[]⟩ : ByteArray)]) ?_ 1 _ rfl; (with_reducible repeat (first | refine blk_drewN ?_ _ | refine blk_drew ?_ | refine blk_alloc ?_ _)); refine blk_put (cs := #[.string (⟨#[]⟩ : ByteArray), .int .i64 0, .string (⟨#[]⟩ : ByteArray), .int .i64 0, .int .i64 0, .string (⟨#[]⟩ : ByteArray)]) ?_ 0 _ rfl; (with_reducible repeat (first | refine blk_drewN ?_ _ | refine blk_drew ?_ | refine blk_alloc ?_ _)); exact BK392.out) hb); have n4_ := Sd.mk (below_step bel_ hb); clear HO384; clear BK377; clear BK378; clear BK392; clear HB; have HO384 := n0_; have BK377 := n1_; have BK378 := n2_; have BK392 := n3_; have HB := n4_; clear n0_ n1_ n2_ n3_ n4_; (try clear hb); (try clear hb2); (try clear hk); (try clear hi)))
           go_ret
           exact ⟨by first | rfl | (simp [errW_none, errW_some] <;> rfl) | (simp only [← hji25]; first | rfl | (simp [errW_none, errW_some] <;> rfl)) | (simp [*, errW_none, errW_some] <;> rfl), bel_⟩
          ·
           rw [if_neg c30] at H
           have c30b0 : (t391 == 4) = false := beq_eq_false_iff_ne.mpr c30
           have c30b1 : (t391 != 4) = true := bne_iff_ne.mpr c30
           (have H3_ := Option.some.inj H; have H4_ := hT.out; rw [← H3_] at H4_; exact absurd H4_ (by decide))
         ·
          rw [if_neg c28] at H
          exact absurd H (by simp)
        ·
         rw [if_neg c27] at H
         exact absurd H (by simp)
       ·
        rw [if_neg c26] at H
        exact absurd H (by simp)
      ·
       rw [if_neg c24] at H
       exact absurd H (by simp)
     ·
      rw [if_neg c23] at H
      exact absurd H (by simp)
    ·
     rw [if_neg c22] at H
     exact absurd H (by simp)
end Go.Proofs.Ytbfnkdgjcpcmbaa.X
