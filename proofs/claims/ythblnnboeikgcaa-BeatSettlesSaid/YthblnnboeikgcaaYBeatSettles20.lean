import Derived.Test.YthblnnboeikgcaaYBeatSettles7
set_option maxHeartbeats 8000000
set_option maxRecDepth 100000
section
namespace Go.Proofs.Ythblnnboeikgcaa.B
open Go.RowKit Go.Proofs.YthblnnboeikgcaaW.PrintWords Go.Proofs.YthblnnboeikgcaaW.PrintLast Go.Proofs.YthblnnboeikgcaaW.PrintMore
attribute [local go_sem] max2_int min2_int max_two min_two max_three min_three max_four min_four   -- for this text's walks alone
set_option linter.unusedVariables false
set_option linter.unusedSimpArgs false
def tally_Some.f (k : Nat) (a0_0 : Int) (a0_1 : Int) (a0_2 : Int) (a0_3 : Int) (a0_4 : Int) (a0_5 : Int) (a0_6 : Int) (a0_7 : Int) (a0_8 : Int) (a0_9 : Int) (l0_10 : List Int) : Option (Int) := (conf_Plain.f k a0_0 a0_1 a0_2 a0_3 a0_4 a0_5 a0_6 a0_7 a0_8 a0_9 l0_10).bind fun t176 => (if t176 = 0 then (some (wrap64 (a0_1 + 1))) else (some 0))
theorem tally_Some.mono : ∀ a0 a1 a2 a3 a4 a5 a6 a7 a8 a9 a10 k, LeO (tally_Some.f k a0 a1 a2 a3 a4 a5 a6 a7 a8 a9 a10) (tally_Some.f (k + 1) a0 a1 a2 a3 a4 a5 a6 a7 a8 a9 a10) := by
 intro a0 a1 a2 a3 a4 a5 a6 a7 a8 a9 a10 k
 unfold tally_Some.f
 repeat' first
   | (with_reducible exact conf_Plain.mono _ _ _ _ _ _ _ _ _ _ _ _)
   | (with_reducible exact LeO.refl _)
   | (with_reducible exact LeO.none _)
   | (with_reducible refine LeO.ite ?_ ?_)
   | (with_reducible refine LeO.bind ?_ (fun _ => ?_))
   | exact conf_Plain.mono _ _ _ _ _ _ _ _ _ _ _ _
   | exact LeO.none _
   | refine LeO.ite ?_ ?_
   | refine LeO.bind ?_ (fun _ => ?_)
theorem tally_Some.calls (k : Nat) (a0_0 : Int) (a0_1 : Int) (a0_2 : Int) (a0_3 : Int) (a0_4 : Int) (a0_5 : Int) (a0_6 : Int) (a0_7 : Int) (a0_8 : Int) (a0_9 : Int) (A0_10 : Option Addr) (c0_10 : Nat) (l0_10 : List Int) (r : Int) (w : World) (hr0_10 : Kd.C (Kd.int .i64) w A0_10 l0_10.length l0_10) (hc0_10 : l0_10.length ≤ c0_10) (h : tally_Some.f k a0_0 a0_1 a0_2 a0_3 a0_4 a0_5 a0_6 a0_7 a0_8 a0_9 l0_10 = some r) :
  Calls Try.prog 149 #[.agg #[.int .i64 a0_0, .int .i64 a0_1, .int .i64 a0_2, .int .i64 a0_3, .int .i64 a0_4, .int .i64 a0_5, .int .i64 a0_6, .int .i64 a0_7, .int .i64 a0_8, .int .i64 a0_9, .slice A0_10 l0_10.length c0_10]] w fun e w' => e = .returned (.int .i64 r) ∧ Below w.heap.size w w' := by
 have hu24 := Try.underlying24
 have HR0_10 := Sd.mk hr0_10
 have HC0_10 := Sd.mk hc0_10
 clear hr0_10 hc0_10
 have HB := Sd.mk (Below.refl w.heap.size w)
 have H : ((conf_Plain.f k a0_0 a0_1 a0_2 a0_3 a0_4 a0_5 a0_6 a0_7 a0_8 a0_9 l0_10).bind fun t176 => (if t176 = 0 then (some (wrap64 (a0_1 + 1))) else (some 0))) = some r := h
 clear h
 replace H := Option.bind_eq_some_iff.mp H
 obtain ⟨t176, A20, H⟩ := H
 replace H : (if t176 = 0 then (some (wrap64 (a0_1 + 1))) else (some 0)) = some r := H
 have A2 := Sd.mk A20
 clear A20
 by_cases c3 : t176 = 0
 ·
  rw [if_pos c3] at H
  have c3b0 : (t176 == 0) = true := beq_iff_eq.mpr c3
  have c3b1 : (t176 != 0) = false := bne_eq_false_iff_eq.mpr c3
  clear c3
  obtain rfl := Option.some.inj H
  go_enter Try.func149, Try.ntmps149
  go_wp2_with (first | ((with_reducible refine gate_dst (N := 1) rfl ?_); refine box_event ?hg (N := 1) ?hd (cs := #[.int .i64 a0_0, .int .i64 a0_1, .int .i64 a0_2, .int .i64 a0_3, .int .i64 a0_4, .int .i64 a0_5, .int .i64 a0_6, .int .i64 a0_7, .int .i64 a0_8, .int .i64 a0_9, .slice A0_10 l0_10.length c0_10]) (t := 24) ?hr ?_; (case hd => rfl); (case hg => rfl); (case hr => first | (go_simp; done) | (go_simp; rfl)); intro gb175 hg w4 hbox hb; have n0_ := Sd.mk (below_step bel_ hb); have n1_ := Sd.mk (hbox); have n2_ := Sd.mk ((by rw [hg]; exact (below_size bel_) : w.heap.size ≤ gb175)); have n3_ := Sd.mk ((by rw [hg]; exact (below_size bel_) : w.heap.size ≤ gb175)); clear HB; have HB := n0_; have BK175 := n1_; have GW175 := n2_; have GE175 := n3_; clear n0_ n1_ n2_ n3_; clear hb hbox hg; obtain ⟨z5_0, z5_1, z5_2, z5_3, z5_4, z5_5, z5_6, z5_7, z5_8, z5_9, z5_10, j5_0, j5_1, j5_2, j5_3, j5_4, j5_5, j5_6, j5_7, j5_8, j5_9, j5_10⟩ := cells11 BK175.out) | ((with_reducible refine gate_callee (f := 59) rfl ?_); refine goesL_ (some 4) rfl rfl Try.func59 (by kernel_rfl) rfl #[.agg #[.int .i64 a0_0, .int .i64 a0_1, .int .i64 a0_2, .int .i64 a0_3, .int .i64 a0_4, .int .i64 a0_5, .int .i64 a0_6, .int .i64 a0_7, .int .i64 a0_8, .int .i64 a0_9, .slice A0_10 l0_10.length c0_10]] rfl (by (try simp only [List.map_toArray, List.map_cons, List.map_nil]); first | done | rfl | (simp only [List.length_drop, List.length_take]; rfl)) ?_; (with_reducible refine (conf_Plain.calls k a0_0 a0_1 a0_2 a0_3 a0_4 a0_5 a0_6 a0_7 a0_8 a0_9 _ _ l0_10 t176 _ ?side1 ?side2 A2.out).mono ?_); (case side1 => repeat (first | exact (Kd.C_below HR0_10.out HB.out) | (with_reducible refine Kd.C_alloc ?_ _) | (with_reducible refine Kd.C_drewN ?_ _) | (with_reducible refine Kd.C_drew ?_))); (case side2 => exact HC0_10.out); rintro e w6 ⟨rfl, hb⟩; refine ⟨_, rfl, ?_⟩; have n0_ := Sd.mk (blk_below (g := gb175) blk_ hb); have n1_ := Sd.mk (below_step bel_ hb); clear BK175; clear HB; have BK175 := n0_; have HB := n1_; clear n0_ n1_; (try clear hb); (try clear hb2); (try clear hk); (try clear hi); obtain ⟨z7_0, z7_1, z7_2, z7_3, z7_4, z7_5, z7_6, z7_7, z7_8, z7_9, z7_10, j7_0, j7_1, j7_2, j7_3, j7_4, j7_5, j7_6, j7_7, j7_8, j7_9, j7_10⟩ := cells11 BK175.out))
  go_ret
  exact ⟨by first | rfl | (simp [errW_none, errW_some] <;> rfl) | (simp [*, errW_none, errW_some] <;> rfl), bel_⟩
 ·
  rw [if_neg c3] at H
  have c3b0 : (t176 == 0) = false := beq_eq_false_iff_ne.mpr c3
  have c3b1 : (t176 != 0) = true := bne_iff_ne.mpr c3
  obtain rfl := Option.some.inj H
  go_enter Try.func149, Try.ntmps149
  go_wp2_with (first | ((with_reducible refine gate_dst (N := 1) rfl ?_); refine box_event ?hg (N := 1) ?hd (cs := #[.int .i64 a0_0, .int .i64 a0_1, .int .i64 a0_2, .int .i64 a0_3, .int .i64 a0_4, .int .i64 a0_5, .int .i64 a0_6, .int .i64 a0_7, .int .i64 a0_8, .int .i64 a0_9, .slice A0_10 l0_10.length c0_10]) (t := 24) ?hr ?_; (case hd => rfl); (case hg => rfl); (case hr => first | (go_simp; done) | (go_simp; rfl)); intro gb175 hg w8 hbox hb; have n0_ := Sd.mk (below_step bel_ hb); have n1_ := Sd.mk (hbox); have n2_ := Sd.mk ((by rw [hg]; exact (below_size bel_) : w.heap.size ≤ gb175)); have n3_ := Sd.mk ((by rw [hg]; exact (below_size bel_) : w.heap.size ≤ gb175)); clear HB; have HB := n0_; have BK175 := n1_; have GW175 := n2_; have GE175 := n3_; clear n0_ n1_ n2_ n3_; clear hb hbox hg; obtain ⟨z9_0, z9_1, z9_2, z9_3, z9_4, z9_5, z9_6, z9_7, z9_8, z9_9, z9_10, j9_0, j9_1, j9_2, j9_3, j9_4, j9_5, j9_6, j9_7, j9_8, j9_9, j9_10⟩ := cells11 BK175.out) | ((with_reducible refine gate_callee (f := 59) rfl ?_); refine goesL_ (some 4) rfl rfl Try.func59 (by kernel_rfl) rfl #[.agg #[.int .i64 a0_0, .int .i64 a0_1, .int .i64 a0_2, .int .i64 a0_3, .int .i64 a0_4, .int .i64 a0_5, .int .i64 a0_6, .int .i64 a0_7, .int .i64 a0_8, .int .i64 a0_9, .slice A0_10 l0_10.length c0_10]] rfl (by (try simp only [List.map_toArray, List.map_cons, List.map_nil]); first | done | rfl | (simp only [List.length_drop, List.length_take]; rfl)) ?_; (with_reducible refine (conf_Plain.calls k a0_0 a0_1 a0_2 a0_3 a0_4 a0_5 a0_6 a0_7 a0_8 a0_9 _ _ l0_10 t176 _ ?side1 ?side2 A2.out).mono ?_); (case side1 => repeat (first | exact (Kd.C_below HR0_10.out HB.out) | (with_reducible refine Kd.C_alloc ?_ _) | (with_reducible refine Kd.C_drewN ?_ _) | (with_reducible refine Kd.C_drew ?_))); (case side2 => exact HC0_10.out); rintro e w10 ⟨rfl, hb⟩; refine ⟨_, rfl, ?_⟩; have n0_ := Sd.mk (blk_below (g := gb175) blk_ hb); have n1_ := Sd.mk (below_step bel_ hb); clear BK175; clear HB; have BK175 := n0_; have HB := n1_; clear n0_ n1_; (try clear hb); (try clear hb2); (try clear hk); (try clear hi)))
  go_ret
  exact ⟨by first | rfl | (simp [errW_none, errW_some] <;> rfl) | (simp [*, errW_none, errW_some] <;> rfl), bel_⟩
end Go.Proofs.Ythblnnboeikgcaa.B
end
section
namespace Go.Proofs.Ythblnnboeikgcaa.B
open Go.RowKit Go.Proofs.YthblnnboeikgcaaW.PrintWords Go.Proofs.YthblnnboeikgcaaW.PrintLast Go.Proofs.YthblnnboeikgcaaW.PrintMore
attribute [local go_sem] max2_int min2_int max_two min_two max_three min_three max_four min_four   -- for this text's walks alone
set_option linter.unusedVariables false
set_option linter.unusedSimpArgs false
def tally_counted_first.sel (n0 n1 n2 v : Int) : Int := if v = 0 then n0 else if v = 1 then n1 else n2
theorem tally_counted_first.sel0 (n0 n1 n2 : Int) : tally_counted_first.sel n0 n1 n2 0 = n0 := by simp [tally_counted_first.sel]
theorem tally_counted_first.sel1 (n0 n1 n2 : Int) : tally_counted_first.sel n0 n1 n2 1 = n1 := by simp [tally_counted_first.sel]
theorem tally_counted_first.sel2 (n0 n1 n2 : Int) : tally_counted_first.sel n0 n1 n2 2 = n2 := by simp [tally_counted_first.sel]
def tally_counted_first.of (n0 n1 n2 least other : Int) : List Int → Int
  | [] => other
  | v :: r => if tally_counted_first.sel n0 n1 n2 v ≥ least then v else tally_counted_first.of n0 n1 n2 least other r
theorem tally_counted_first.calls (n0 n1 n2 least other : Int) (A0 : Option Addr) (c0 : Nat) (l0 : List Int) (w : World) (hr0 : Kd.C (Kd.int .i64) w A0 l0.length l0) (hc0 : l0.length ≤ c0) (hn : l0.length ≤ 1000000) (hm : ∀ x : Int, 0 ≤ x → x < l0.length → rd l0 x = 0 ∨ rd l0 x = 1 ∨ rd l0 x = 2) :
    Calls Try.prog 148 #[.agg #[.int .i64 n0, .int .i64 n1, .int .i64 n2], .int .i64 least, .int .i64 other, .slice A0 l0.length c0] w fun e w' => e = .returned (.int .i64 (tally_counted_first.of n0 n1 n2 least other l0)) ∧ Below w.heap.size w w' := by
  have HR := Sd.mk hr0
  have HC := Sd.mk hc0
  clear hr0 hc0
  go_enter Try.func148, Try.ntmps148
  go_wp2
  go_loopw [13] (fun i wr => ∃ x : Int, i = .int .i64 x ∧ 0 ≤ x ∧ Sd (tally_counted_first.of n0 n1 n2 least other l0 = tally_counted_first.of n0 n1 n2 least other (l0.drop x.toNat)) ∧ Sd (Below w.heap.size w wr) ∧ Sd (wr.heap[w.heap.size]? = some (.cells #[.int .i64 n0, .int .i64 n1, .int .i64 n2] 161 (0, 0)))) (fun i _ => l0.length - (intOf i).toNat)
  case atStart => exact ⟨0, rfl, by omega, ⟨rfl⟩, ⟨below_alloc (Below.refl _ w) _⟩, ⟨blk_new w _⟩⟩
  case round =>
    obtain ⟨x, rfl, x0, HO, HBW, K0⟩ := hrel
    by_cases hl : x < l0.length
    · obtain ⟨ad, e, hx⟩ := Kd.at_int HR.out x x0 hl
      subst e
      have hx' : wr.cell? (ad.add x.toNat) = some (.int .i64 (rd l0 x)) := pw_cell_below HBW.out hx
      have hlb : decide (x < (l0.length : Int)) = true := decide_eq_true hl
      clear hx
      have hlt : x.toNat < l0.length := by omega
      have hd : l0.drop x.toNat = rd l0 x :: l0.drop (x.toNat + 1) := by
        rw [List.drop_eq_getElem_cons hlt]
        simp [rd, List.getD_eq_getElem?_getD, hlt]
      have HD := Sd.mk (show tally_counted_first.of n0 n1 n2 least other l0 = if tally_counted_first.sel n0 n1 n2 (rd l0 x) ≥ least then rd l0 x else tally_counted_first.of n0 n1 n2 least other (l0.drop (x + 1).toNat) from by rw [HO.out, hd, show (x + 1).toNat = x.toNat + 1 by omega]; rfl)
      clear hd hlt
      have hc0 : wr.cell? ⟨w.heap.size, 0, none⟩ = some (.int .i64 n0) := (blk_cell K0.out 0).trans rfl
      have hc1 : wr.cell? ⟨w.heap.size, 1, none⟩ = some (.int .i64 n1) := (blk_cell K0.out 1).trans rfl
      have hc2 : wr.cell? ⟨w.heap.size, 2, none⟩ = some (.int .i64 n2) := (blk_cell K0.out 2).trans rfl
      have HM := hm x x0 hl
      clear hm
      rcases HM with hv | hv | hv
      · rw [hv] at hx' HD
        rw [tally_counted_first.sel0] at HD
        by_cases d : n0 ≥ least
        · have db : decide (least ≤ n0) = true := decide_eq_true d
          clear d
          go_wp2
          go_ret
          exact ⟨by rw [HD.out, if_pos (of_decide_eq_true db)]; rfl, HBW.out⟩
        · have db : decide (least ≤ n0) = false := decide_eq_false d
          clear d
          go_wp2
          go_roundw
          case rel => exact ⟨x + 1, rfl, by omega, ⟨by rw [HD.out, if_neg (of_decide_eq_false db)]⟩, HBW, K0⟩
          case measure => simp [intOf]; omega
      · rw [hv] at hx' HD
        rw [tally_counted_first.sel1] at HD
        by_cases d : n1 ≥ least
        · have db : decide (least ≤ n1) = true := decide_eq_true d
          clear d
          go_wp2
          go_ret
          exact ⟨by rw [HD.out, if_pos (of_decide_eq_true db)]; rfl, HBW.out⟩
        · have db : decide (least ≤ n1) = false := decide_eq_false d
          clear d
          go_wp2
          go_roundw
          case rel => exact ⟨x + 1, rfl, by omega, ⟨by rw [HD.out, if_neg (of_decide_eq_false db)]⟩, HBW, K0⟩
          case measure => simp [intOf]; omega
      · rw [hv] at hx' HD
        rw [tally_counted_first.sel2] at HD
        by_cases d : n2 ≥ least
        · have db : decide (least ≤ n2) = true := decide_eq_true d
          clear d
          go_wp2
          go_ret
          exact ⟨by rw [HD.out, if_pos (of_decide_eq_true db)]; rfl, HBW.out⟩
        · have db : decide (least ≤ n2) = false := decide_eq_false d
          clear d
          go_wp2
          go_roundw
          case rel => exact ⟨x + 1, rfl, by omega, ⟨by rw [HD.out, if_neg (of_decide_eq_false db)]⟩, HBW, K0⟩
          case measure => simp [intOf]; omega
    · have hlb : decide (x < (l0.length : Int)) = false := decide_eq_false hl
      have HE := Sd.mk (show tally_counted_first.of n0 n1 n2 least other l0 = other from by rw [HO.out, List.drop_eq_nil_of_le (by omega)]; rfl)
      go_wp2
      go_ret
      exact ⟨by rw [HE.out]; rfl, HBW.out⟩
end Go.Proofs.Ythblnnboeikgcaa.B
end
