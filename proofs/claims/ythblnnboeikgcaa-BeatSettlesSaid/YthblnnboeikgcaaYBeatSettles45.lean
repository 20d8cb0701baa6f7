import Derived.Test.YthblnnboeikgcaaYBeatSettles40
import Derived.Test.YthblnnboeikgcaaYBeatSettles41
import Derived.Test.YthblnnboeikgcaaYBeatSettles44
set_option maxHeartbeats 8000000
set_option maxRecDepth 100000
namespace Go.Proofs.Ythblnnboeikgcaa.B
open Go.RowKit Go.Proofs.YthblnnboeikgcaaW.PrintWords Go.Proofs.YthblnnboeikgcaaW.PrintLast Go.Proofs.YthblnnboeikgcaaW.PrintMore
attribute [local go_sem] max2_int min2_int max_two min_two max_three min_three max_four min_four   -- for this text's walks alone
set_option linter.unusedVariables false
set_option linter.unusedSimpArgs false
mutual
def l18BeatSettles.j0 : Nat → Int → Bool → Int → Int → Int → Int → Int → Int → Int → Int → Int → Int → List Int → List ByteArray → List Int → List Int → List ByteArray → Option (Bool)
 | 0, _, _, _, _, _, _, _, _, _, _, _, _, _, _, _, _, _ => none
 | k + 1, x1, x55, v00, v01, v02, v03, v04, v05, v06, v07, v08, v09, v10, v11, v12, v13, v14 => if x55 = true then ((l18known.f k).bind fun t453 => (some t453)) else ((r04Settle.f k v00 v01 v02 v03 v04 v05 v06 v07 v08 v09 v10).bind fun t454 => ((l18Cluster_runs.f k v00 v01 v02 v03 v04 v05 v06 v07 v08 v09 v10 v11 v12 v13 v14 (wrap64 (t454 + x1))).bind fun t455 => (l18BeatSettles.l0 k t454 t455 0 v00 v01 v02 v03 v04 v05 v06 v07 v08 v09 v10 v11 v12 v13 v14)))
def l18BeatSettles.j2 : Nat → Int → List ByteArray → Int → Int → Int → Int → Int → Int → Int → Int → Int → Int → Int → List Int → List ByteArray → List Int → List Int → List ByteArray → Option (Bool)
 | 0, _, _, _, _, _, _, _, _, _, _, _, _, _, _, _, _, _, _ => none
 | k + 1, x5, x6, x7, v00, v01, v02, v03, v04, v05, v06, v07, v08, v09, v10, v11, v12, v13, v14 => l18BeatSettles.l1 k x5 x6 x7 (⟨#[]⟩ : ByteArray) 0 v00 v01 v02 v03 v04 v05 v06 v07 v08 v09 v10 v11 v12 v13 v14
def l18BeatSettles.l1 : Nat → Int → List ByteArray → Int → ByteArray → Int → Int → Int → Int → Int → Int → Int → Int → Int → Int → Int → List Int → List ByteArray → List Int → List Int → List ByteArray → Option (Bool)
 | 0, _, _, _, _, _, _, _, _, _, _, _, _, _, _, _, _, _, _, _, _ => none
 | k + 1, x5, x6, x7, x8, x9, v00, v01, v02, v03, v04, v05, v06, v07, v08, v09, v10, v11, v12, v13, v14 => if x9 < (x6.length : Int) then (l18BeatSettles.l2 k x5 x6 x7 x8 x9 0 v00 v01 v02 v03 v04 v05 v06 v07 v08 v09 v10 v11 v12 v13 v14) else ((l18regular.f k v00 v01 v02 v03 v04 v05 v06 v07 v08 v09 v10 x8 x5).bind fun t459 => (if t459 = true then ((l18known.f k).bind fun t460 => (some t460)) else (some false)))
def l18BeatSettles.l2 : Nat → Int → List ByteArray → Int → ByteArray → Int → Int → Int → Int → Int → Int → Int → Int → Int → Int → Int → Int → List Int → List ByteArray → List Int → List Int → List ByteArray → Option (Bool)
 | 0, _, _, _, _, _, _, _, _, _, _, _, _, _, _, _, _, _, _, _, _, _ => none
 | k + 1, x5, x6, x7, x8, x9, x10, v00, v01, v02, v03, v04, v05, v06, v07, v08, v09, v10, v11, v12, v13, v14 => if x10 < v00 then (if x9 ≥ x5 then ((r14In.f k v13 x10).bind fun t461 => (if t461 = true then (l18BeatSettles.l2 k x5 x6 x7 x8 x9 (wrap64 (x10 + 1)) v00 v01 v02 v03 v04 v05 v06 v07 v08 v09 v10 v11 v12 v13 v14) else (if 0 ≤ x9 then (if x9 < (x6.length : Int) then (if 0 ≤ x10 then (if x10 < ((rdOf ByteArray.empty x6 x9).size : Int) then (if 0 ≤ x7 then (if x7 < ((rdOf ByteArray.empty x6 x9).size : Int) then (if (bt (rdOf ByteArray.empty x6 x9) x10) = (bt (rdOf ByteArray.empty x6 x9) x7) then (l18BeatSettles.l2 k x5 x6 x7 x8 x9 (wrap64 (x10 + 1)) v00 v01 v02 v03 v04 v05 v06 v07 v08 v09 v10 v11 v12 v13 v14) else (some false)) else (none)) else (none)) else (none)) else (none)) else (none)) else (none)))) else (l18BeatSettles.l2 k x5 x6 x7 x8 x9 (wrap64 (x10 + 1)) v00 v01 v02 v03 v04 v05 v06 v07 v08 v09 v10 v11 v12 v13 v14)) else (if 0 ≤ x9 then (if x9 < (x6.length : Int) then (if 0 ≤ x7 then (if x7 ≤ (wrap64 (x7 + 1)) then (if (wrap64 (x7 + 1)) ≤ ((rdOf ByteArray.empty x6 x9).size : Int) then (if x8.size + (((wrap64 (x7 + 1)) : Int).toNat - (x7 : Int).toNat) ≤ 9223372036854775807 then (l18BeatSettles.l1 k x5 x6 x7 (x8 ++ ((rdOf ByteArray.empty x6 x9).extract (x7 : Int).toNat ((wrap64 (x7 + 1)) : Int).toNat)) (wrap64 (x9 + 1)) v00 v01 v02 v03 v04 v05 v06 v07 v08 v09 v10 v11 v12 v13 v14) else (none)) else (none)) else (none)) else (none)) else (none)) else (none))
def l18BeatSettles.l0 : Nat → Int → List ByteArray → Int → Int → Int → Int → Int → Int → Int → Int → Int → Int → Int → List Int → List ByteArray → List Int → List Int → List ByteArray → Option (Bool)
 | 0, _, _, _, _, _, _, _, _, _, _, _, _, _, _, _, _, _, _ => none
 | k + 1, x5, x6, x7, v00, v01, v02, v03, v04, v05, v06, v07, v08, v09, v10, v11, v12, v13, v14 => if x7 < v00 then ((r14In.f k v13 x7).bind fun t458 => (if t458 = true then (l18BeatSettles.l0 k x5 x6 (wrap64 (x7 + 1)) v00 v01 v02 v03 v04 v05 v06 v07 v08 v09 v10 v11 v12 v13 v14) else (l18BeatSettles.j2 k x5 x6 x7 v00 v01 v02 v03 v04 v05 v06 v07 v08 v09 v10 v11 v12 v13 v14))) else (l18BeatSettles.j2 k x5 x6 x7 v00 v01 v02 v03 v04 v05 v06 v07 v08 v09 v10 v11 v12 v13 v14)
end
def l18BeatSettles.f (k : Nat) (a0_0 : Int) (a0_1 : Int) (a0_2 : Int) (a0_3 : Int) (a0_4 : Int) (a0_5 : Int) (a0_6 : Int) (a0_7 : Int) (a0_8 : Int) (a0_9 : Int) (l0_10 : List Int) (l0_11 : List ByteArray) (l0_12 : List Int) (l0_13 : List Int) (l0_14 : List ByteArray) (a1 : Int) : Option (Bool) := (r03Plain.f k a0_0 a0_1 a0_2 a0_3 a0_4 a0_5 a0_6 a0_7 a0_8 a0_9 l0_10).bind fun t452 => (if t452 = 0 then (if (l0_11.length : Int) = a0_0 then (if (l0_12.length : Int) = a0_0 then (if (l0_13.length : Int) > a0_1 then (l18BeatSettles.j0 k a1 true a0_0 a0_1 a0_2 a0_3 a0_4 a0_5 a0_6 a0_7 a0_8 a0_9 l0_10 l0_11 l0_12 l0_13 l0_14) else (if (l0_14.length : Int) > 1000 then (l18BeatSettles.j0 k a1 true a0_0 a0_1 a0_2 a0_3 a0_4 a0_5 a0_6 a0_7 a0_8 a0_9 l0_10 l0_11 l0_12 l0_13 l0_14) else (if a1 < 0 then (l18BeatSettles.j0 k a1 true a0_0 a0_1 a0_2 a0_3 a0_4 a0_5 a0_6 a0_7 a0_8 a0_9 l0_10 l0_11 l0_12 l0_13 l0_14) else (l18BeatSettles.j0 k a1 (decide (a1 > 100)) a0_0 a0_1 a0_2 a0_3 a0_4 a0_5 a0_6 a0_7 a0_8 a0_9 l0_10 l0_11 l0_12 l0_13 l0_14)))) else (l18BeatSettles.j0 k a1 true a0_0 a0_1 a0_2 a0_3 a0_4 a0_5 a0_6 a0_7 a0_8 a0_9 l0_10 l0_11 l0_12 l0_13 l0_14)) else (l18BeatSettles.j0 k a1 true a0_0 a0_1 a0_2 a0_3 a0_4 a0_5 a0_6 a0_7 a0_8 a0_9 l0_10 l0_11 l0_12 l0_13 l0_14)) else (l18BeatSettles.j0 k a1 true a0_0 a0_1 a0_2 a0_3 a0_4 a0_5 a0_6 a0_7 a0_8 a0_9 l0_10 l0_11 l0_12 l0_13 l0_14))
theorem l18BeatSettles.calls (k : Nat) (a0_0 : Int) (a0_1 : Int) (a0_2 : Int) (a0_3 : Int) (a0_4 : Int) (a0_5 : Int) (a0_6 : Int) (a0_7 : Int) (a0_8 : Int) (a0_9 : Int) (A0_10 : Option Addr) (c0_10 : Nat) (l0_10 : List Int) (A0_11 : Option Addr) (c0_11 : Nat) (l0_11 : List ByteArray) (A0_12 : Option Addr) (c0_12 : Nat) (l0_12 : List Int) (A0_13 : Option Addr) (c0_13 : Nat) (l0_13 : List Int) (A0_14 : Option Addr) (c0_14 : Nat) (l0_14 : List ByteArray) (a1 : Int) (r : Bool) (w : World) (hr0_10 : Kd.C (Kd.int .i64) w A0_10 l0_10.length l0_10) (hc0_10 : l0_10.length ≤ c0_10) (hr0_11 : Kd.C Kd.string w A0_11 l0_11.length l0_11) (hc0_11 : l0_11.length ≤ c0_11) (hr0_12 : Kd.C (Kd.int .i64) w A0_12 l0_12.length l0_12) (hc0_12 : l0_12.length ≤ c0_12) (hr0_13 : Kd.C (Kd.int .i64) w A0_13 l0_13.length l0_13) (hc0_13 : l0_13.length ≤ c0_13) (hr0_14 : Kd.C Kd.string w A0_14 l0_14.length l0_14) (hc0_14 : l0_14.length ≤ c0_14) (h : l18BeatSettles.f k a0_0 a0_1 a0_2 a0_3 a0_4 a0_5 a0_6 a0_7 a0_8 a0_9 l0_10 l0_11 l0_12 l0_13 l0_14 a1 = some r) (hT : Sd (r = true) := by first | exact ⟨rfl⟩ | assumption) :
  Calls Try.prog 14 #[.agg #[.int .i64 a0_0, .int .i64 a0_1, .int .i64 a0_2, .int .i64 a0_3, .int .i64 a0_4, .int .i64 a0_5, .int .i64 a0_6, .int .i64 a0_7, .int .i64 a0_8, .int .i64 a0_9, .slice A0_10 l0_10.length c0_10, .slice A0_11 l0_11.length c0_11, .slice A0_12 l0_12.length c0_12, .slice A0_13 l0_13.length c0_13, .slice A0_14 l0_14.length c0_14], .int .i64 a1] w fun e w' => e = .returned (.bool r) ∧ Below w.heap.size w w' := by
 have hu80 := Try.underlying80
 have hu24 := Try.underlying24
 have HR0_10 := Sd.mk hr0_10
 have HC0_10 := Sd.mk hc0_10
 clear hr0_10 hc0_10
 have HR0_11 := Sd.mk hr0_11
 have HC0_11 := Sd.mk hc0_11
 clear hr0_11 hc0_11
 have HR0_12 := Sd.mk hr0_12
 have HC0_12 := Sd.mk hc0_12
 clear hr0_12 hc0_12
 have HR0_13 := Sd.mk hr0_13
 have HC0_13 := Sd.mk hc0_13
 clear hr0_13 hc0_13
 have HR0_14 := Sd.mk hr0_14
 have HC0_14 := Sd.mk hc0_14
 clear hr0_14 hc0_14
 have HB := Sd.mk (Below.refl w.heap.size w)
 have H : ((r03Plain.f k a0_0 a0_1 a0_2 a0_3 a0_4 a0_5 a0_6 a0_7 a0_8 a0_9 l0_10).bind fun t452 => (if t452 = 0 then (if (l0_11.length : Int) = a0_0 then (if (l0_12.length : Int) = a0_0 then (if (l0_13.length : Int) > a0_1 then (l18BeatSettles.j0 k a1 true a0_0 a0_1 a0_2 a0_3 a0_4 a0_5 a0_6 a0_7 a0_8 a0_9 l0_10 l0_11 l0_12 l0_13 l0_14) else (if (l0_14.length : Int) > 1000 then (l18BeatSettles.j0 k a1 true a0_0 a0_1 a0_2 a0_3 a0_4 a0_5 a0_6 a0_7 a0_8 a0_9 l0_10 l0_11 l0_12 l0_13 l0_14) else (if a1 < 0 then (l18BeatSettles.j0 k a1 true a0_0 a0_1 a0_2 a0_3 a0_4 a0_5 a0_6 a0_7 a0_8 a0_9 l0_10 l0_11 l0_12 l0_13 l0_14) else (l18BeatSettles.j0 k a1 (decide (a1 > 100)) a0_0 a0_1 a0_2 a0_3 a0_4 a0_5 a0_6 a0_7 a0_8 a0_9 l0_10 l0_11 l0_12 l0_13 l0_14)))) else (l18BeatSettles.j0 k a1 true a0_0 a0_1 a0_2 a0_3 a0_4 a0_5 a0_6 a0_7 a0_8 a0_9 l0_10 l0_11 l0_12 l0_13 l0_14)) else (l18BeatSettles.j0 k a1 true a0_0 a0_1 a0_2 a0_3 a0_4 a0_5 a0_6 a0_7 a0_8 a0_9 l0_10 l0_11 l0_12 l0_13 l0_14)) else (l18BeatSettles.j0 k a1 true a0_0 a0_1 a0_2 a0_3 a0_4 a0_5 a0_6 a0_7 a0_8 a0_9 l0_10 l0_11 l0_12 l0_13 l0_14))) = some r := h
 clear h
 have HC3 := Sd.mk H
 clear H
 go_enter Try.func14, Try.ntmps14
 go_upto_region 1 with (first | ((with_reducible refine gate_dst (N := 2) rfl ?_); (try (refine gate_guard (by rfl) ?_; dsimp only)); refine box_event ?hg (N := 2) ?hd (cs := #[.int .i64 a0_0, .int .i64 a0_1, .int .i64 a0_2, .int .i64 a0_3, .int .i64 a0_4, .int .i64 a0_5, .int .i64 a0_6, .int .i64 a0_7, .int .i64 a0_8, .int .i64 a0_9, .slice A0_10 l0_10.length c0_10, .slice A0_11 l0_11.length c0_11, .slice A0_12 l0_12.length c0_12, .slice A0_13 l0_13.length c0_13, .slice A0_14 l0_14.length c0_14]) (t := 80) ?hr ?_; (case hd => rfl); (case hg => rfl); (case hr => first | (go_simp; done) | (go_simp; rfl)); intro gb451 hg w4 hbox hb; have n0_ := Sd.mk (below_step bel_ hb); have n1_ := Sd.mk (hbox); have n2_ := Sd.mk ((by rw [hg]; exact (below_size bel_) : w.heap.size ≤ gb451)); have n3_ := Sd.mk ((by rw [hg]; exact (below_size bel_) : w.heap.size ≤ gb451)); clear HB; have HB := n0_; have BK451 := n1_; have GW451 := n2_; have GE451 := n3_; clear n0_ n1_ n2_ n3_; clear hb hbox hg))
 repeat (go_quiet (first | ((with_reducible refine gate_dst (N := 2) rfl ?_); (try (refine gate_guard (by rfl) ?_; dsimp only)); refine box_event ?hg (N := 2) ?hd (cs := #[.int .i64 a0_0, .int .i64 a0_1, .int .i64 a0_2, .int .i64 a0_3, .int .i64 a0_4, .int .i64 a0_5, .int .i64 a0_6, .int .i64 a0_7, .int .i64 a0_8, .int .i64 a0_9, .slice A0_10 l0_10.length c0_10, .slice A0_11 l0_11.length c0_11, .slice A0_12 l0_12.length c0_12, .slice A0_13 l0_13.length c0_13, .slice A0_14 l0_14.length c0_14]) (t := 80) ?hr ?_; (case hd => rfl); (case hg => rfl); (case hr => first | (go_simp; done) | (go_simp; rfl)); intro gb451 hg w4 hbox hb; have n0_ := Sd.mk (below_step bel_ hb); have n1_ := Sd.mk (hbox); have n2_ := Sd.mk ((by rw [hg]; exact (below_size bel_) : w.heap.size ≤ gb451)); have n3_ := Sd.mk ((by rw [hg]; exact (below_size bel_) : w.heap.size ≤ gb451)); clear HB; have HB := n0_; have BK451 := n1_; have GW451 := n2_; have GE451 := n3_; clear n0_ n1_ n2_ n3_; clear hb hbox hg)); go_upto_region 1 with (first | ((with_reducible refine gate_dst (N := 2) rfl ?_); (try (refine gate_guard (by rfl) ?_; dsimp only)); refine box_event ?hg (N := 2) ?hd (cs := #[.int .i64 a0_0, .int .i64 a0_1, .int .i64 a0_2, .int .i64 a0_3, .int .i64 a0_4, .int .i64 a0_5, .int .i64 a0_6, .int .i64 a0_7, .int .i64 a0_8, .int .i64 a0_9, .slice A0_10 l0_10.length c0_10, .slice A0_11 l0_11.length c0_11, .slice A0_12 l0_12.length c0_12, .slice A0_13 l0_13.length c0_13, .slice A0_14 l0_14.length c0_14]) (t := 80) ?hr ?_; (case hd => rfl); (case hg => rfl); (case hr => first | (go_simp; done) | (go_simp; rfl)); intro gb451 hg w4 hbox hb; have n0_ := Sd.mk (below_step bel_ hb); have n1_ := Sd.mk (hbox); have n2_ := Sd.mk ((by rw [hg]; exact (below_size bel_) : w.heap.size ≤ gb451)); have n3_ := Sd.mk ((by rw [hg]; exact (below_size bel_) : w.heap.size ≤ gb451)); clear HB; have HB := n0_; have BK451 := n1_; have GW451 := n2_; have GE451 := n3_; clear n0_ n1_ n2_ n3_; clear hb hbox hg)))
 (try simp only [Act.put, List.setIfInBounds_toArray, List.set_cons_zero, List.set_cons_succ])
 go_cut [55] (fun v55 wc => ∃ (kq : Nat) (x55_2 : Bool), v55 = .bool x55_2 ∧ Sd (l18BeatSettles.j0 kq a1 x55_2 a0_0 a0_1 a0_2 a0_3 a0_4 a0_5 a0_6 a0_7 a0_8 a0_9 l0_10 l0_11 l0_12 l0_13 l0_14 = some r) ∧ Sd (kq ≤ k) ∧ Sd (wc.heap[gb451]? = some (.cells #[.int .i64 a0_0, .int .i64 a0_1, .int .i64 a0_2, .int .i64 a0_3, .int .i64 a0_4, .int .i64 a0_5, .int .i64 a0_6, .int .i64 a0_7, .int .i64 a0_8, .int .i64 a0_9, (.slice A0_10 l0_10.length c0_10), (.slice A0_11 l0_11.length c0_11), (.slice A0_12 l0_12.length c0_12), (.slice A0_13 l0_13.length c0_13), (.slice A0_14 l0_14.length c0_14)] 80 (0, 0))) ∧ Sd (Below w.heap.size w wc))
 case first =>
  have H := HC3.out
  clear HC3
  replace H := Option.bind_eq_some_iff.mp H
  obtain ⟨t452, A50, H⟩ := H
  replace H : (if t452 = 0 then (if (l0_11.length : Int) = a0_0 then (if (l0_12.length : Int) = a0_0 then (if (l0_13.length : Int) > a0_1 then (l18BeatSettles.j0 k a1 true a0_0 a0_1 a0_2 a0_3 a0_4 a0_5 a0_6 a0_7 a0_8 a0_9 l0_10 l0_11 l0_12 l0_13 l0_14) else (if (l0_14.length : Int) > 1000 then (l18BeatSettles.j0 k a1 true a0_0 a0_1 a0_2 a0_3 a0_4 a0_5 a0_6 a0_7 a0_8 a0_9 l0_10 l0_11 l0_12 l0_13 l0_14) else (if a1 < 0 then (l18BeatSettles.j0 k a1 true a0_0 a0_1 a0_2 a0_3 a0_4 a0_5 a0_6 a0_7 a0_8 a0_9 l0_10 l0_11 l0_12 l0_13 l0_14) else (l18BeatSettles.j0 k a1 (decide (a1 > 100)) a0_0 a0_1 a0_2 a0_3 a0_4 a0_5 a0_6 a0_7 a0_8 a0_9 l0_10 l0_11 l0_12 l0_13 l0_14)))) else (l18BeatSettles.j0 k a1 true a0_0 a0_1 a0_2 a0_3 a0_4 a0_5 a0_6 a0_7 a0_8 a0_9 l0_10 l0_11 l0_12 l0_13 l0_14)) else (l18BeatSettles.j0 k a1 true a0_0 a0_1 a0_2 a0_3 a0_4 a0_5 a0_6 a0_7 a0_8 a0_9 l0_10 l0_11 l0_12 l0_13 l0_14)) else (l18BeatSettles.j0 k a1 true a0_0 a0_1 a0_2 a0_3 a0_4 a0_5 a0_6 a0_7 a0_8 a0_9 l0_10 l0_11 l0_12 l0_13 l0_14)) = some r := H
  have A5 := Sd.mk A50
  clear A50
  by_cases c6 : t452 = 0
  ·
   rw [if_pos c6] at H
   have c6b0 : (t452 == 0) = true := beq_iff_eq.mpr c6
   have c6b1 : (t452 != 0) = false := bne_eq_false_iff_eq.mpr c6
   clear c6
   (first | rw [c6b0] | (simp only [i64_w, i32_w]; rw [c6b0]) | skip)
   (try rw [c6b1])
   by_cases c7 : (l0_11.length : Int) = a0_0
   ·
    rw [if_pos c7] at H
    have c7b0 : ((l0_11.length : Int) == a0_0) = true := beq_iff_eq.mpr c7
    have c7b1 : ((l0_11.length : Int) != a0_0) = false := bne_eq_false_iff_eq.mpr c7
    clear c7
    by_cases c8 : (l0_12.length : Int) = a0_0
    ·
     rw [if_pos c8] at H
     have c8b0 : ((l0_12.length : Int) == a0_0) = true := beq_iff_eq.mpr c8
     have c8b1 : ((l0_12.length : Int) != a0_0) = false := bne_eq_false_iff_eq.mpr c8
     clear c8
     by_cases c9 : (l0_13.length : Int) > a0_1
     ·
      rw [if_pos c9] at H
      have c9b0 : decide (a0_1 < (l0_13.length : Int)) = true := decide_eq_true c9
      clear c9
      have H' := Sd.mk H
      clear H
      obtain ⟨z10_0, z10_1, z10_2, z10_3, z10_4, z10_5, z10_6, z10_7, z10_8, z10_9, z10_10, z10_11, z10_12, z10_13, z10_14, j10_0, j10_1, j10_2, j10_3, j10_4, j10_5, j10_6, j10_7, j10_8, j10_9, j10_10, j10_11, j10_12, j10_13, j10_14⟩ := cells15 BK451.out
      go_wp2_with (first | (go_at_call 22; (with_reducible refine (r03Plain.calls k a0_0 a0_1 a0_2 a0_3 a0_4 a0_5 a0_6 a0_7 a0_8 a0_9 _ _ l0_10 t452 _ ?side1 ?side2 A5.out).mono ?_); (case side1 => repeat (first | exact (Kd.C_below HR0_10.out HB.out) | (with_reducible refine Kd.C_alloc ?_ _) | (with_reducible refine Kd.C_drewN ?_ _) | (with_reducible refine Kd.C_drew ?_))); (case side2 => exact HC0_10.out); rintro e w11 ⟨rfl, hb⟩; have n0_ := Sd.mk (blk_below (g := gb451) blk_ hb); have n1_ := Sd.mk (below_step bel_ hb); clear BK451; clear HB; have BK451 := n0_; have HB := n1_; clear n0_ n1_; (try clear hb); (try clear hb2); (try clear hk); (try clear hi); obtain ⟨z12_0, z12_1, z12_2, z12_3, z12_4, z12_5, z12_6, z12_7, z12_8, z12_9, z12_10, z12_11, z12_12, z12_13, z12_14, j12_0, j12_1, j12_2, j12_3, j12_4, j12_5, j12_6, j12_7, j12_8, j12_9, j12_10, j12_11, j12_12, j12_13, j12_14⟩ := cells15 BK451.out))
      repeat (go_quiet (first | (go_at_call 22; (with_reducible refine (r03Plain.calls k a0_0 a0_1 a0_2 a0_3 a0_4 a0_5 a0_6 a0_7 a0_8 a0_9 _ _ l0_10 t452 _ ?side1 ?side2 A5.out).mono ?_); (case side1 => repeat (first | exact (Kd.C_below HR0_10.out HB.out) | (with_reducible refine Kd.C_alloc ?_ _) | (with_reducible refine Kd.C_drewN ?_ _) | (with_reducible refine Kd.C_drew ?_))); (case side2 => exact HC0_10.out); rintro e w11 ⟨rfl, hb⟩; have n0_ := Sd.mk (blk_below (g := gb451) blk_ hb); have n1_ := Sd.mk (below_step bel_ hb); clear BK451; clear HB; have BK451 := n0_; have HB := n1_; clear n0_ n1_; (try clear hb); (try clear hb2); (try clear hk); (try clear hi); obtain ⟨z12_0, z12_1, z12_2, z12_3, z12_4, z12_5, z12_6, z12_7, z12_8, z12_9, z12_10, z12_11, z12_12, z12_13, z12_14, j12_0, j12_1, j12_2, j12_3, j12_4, j12_5, j12_6, j12_7, j12_8, j12_9, j12_10, j12_11, j12_12, j12_13, j12_14⟩ := cells15 BK451.out)); try go_wp2_with (first | (go_at_call 22; (with_reducible refine (r03Plain.calls k a0_0 a0_1 a0_2 a0_3 a0_4 a0_5 a0_6 a0_7 a0_8 a0_9 _ _ l0_10 t452 _ ?side1 ?side2 A5.out).mono ?_); (case side1 => repeat (first | exact (Kd.C_below HR0_10.out HB.out) | (with_reducible refine Kd.C_alloc ?_ _) | (with_reducible refine Kd.C_drewN ?_ _) | (with_reducible refine Kd.C_drew ?_))); (case side2 => exact HC0_10.out); rintro e w11 ⟨rfl, hb⟩; have n0_ := Sd.mk (blk_below (g := gb451) blk_ hb); have n1_ := Sd.mk (below_step bel_ hb); clear BK451; clear HB; have BK451 := n0_; have HB := n1_; clear n0_ n1_; (try clear hb); (try clear hb2); (try clear hk); (try clear hi); obtain ⟨z12_0, z12_1, z12_2, z12_3, z12_4, z12_5, z12_6, z12_7, z12_8, z12_9, z12_10, z12_11, z12_12, z12_13, z12_14, j12_0, j12_1, j12_2, j12_3, j12_4, j12_5, j12_6, j12_7, j12_8, j12_9, j12_10, j12_11, j12_12, j12_13, j12_14⟩ := cells15 BK451.out)))
      go_meet
      case rel => exact ⟨_, (true), (by first | rfl | (simp; done) | (simp [*]; done)), H', ⟨by first | omega | exact Nat.le_refl _⟩, ⟨blk_⟩, ⟨bel_⟩⟩
     ·
      rw [if_neg c9] at H
      have c9b0 : decide (a0_1 < (l0_13.length : Int)) = false := decide_eq_false c9
      clear c9
      by_cases c13 : (l0_14.length : Int) > 1000
      ·
       rw [if_pos c13] at H
       have c13b0 : decide (1000 < (l0_14.length : Int)) = true := decide_eq_true c13
       have c13b1 : decide (1000 < l0_14.length) = true := decide_eq_true (by omega)
       clear c13
       have H' := Sd.mk H
       clear H
       obtain ⟨z14_0, z14_1, z14_2, z14_3, z14_4, z14_5, z14_6, z14_7, z14_8, z14_9, z14_10, z14_11, z14_12, z14_13, z14_14, j14_0, j14_1, j14_2, j14_3, j14_4, j14_5, j14_6, j14_7, j14_8, j14_9, j14_10, j14_11, j14_12, j14_13, j14_14⟩ := cells15 BK451.out
       go_wp2_with (first | (go_at_call 22; (with_reducible refine (r03Plain.calls k a0_0 a0_1 a0_2 a0_3 a0_4 a0_5 a0_6 a0_7 a0_8 a0_9 _ _ l0_10 t452 _ ?side1 ?side2 A5.out).mono ?_); (case side1 => repeat (first | exact (Kd.C_below HR0_10.out HB.out) | (with_reducible refine Kd.C_alloc ?_ _) | (with_reducible refine Kd.C_drewN ?_ _) | (with_reducible refine Kd.C_drew ?_))); (case side2 => exact HC0_10.out); rintro e w15 ⟨rfl, hb⟩; have n0_ := Sd.mk (blk_below (g := gb451) blk_ hb); have n1_ := Sd.mk (below_step bel_ hb); clear BK451; clear HB; have BK451 := n0_; have HB := n1_; clear n0_ n1_; (try clear hb); (try clear hb2); (try clear hk); (try clear hi); obtain ⟨z16_0, z16_1, z16_2, z16_3, z16_4, z16_5, z16_6, z16_7, z16_8, z16_9, z16_10, z16_11, z16_12, z16_13, z16_14, j16_0, j16_1, j16_2, j16_3, j16_4, j16_5, j16_6, j16_7, j16_8, j16_9, j16_10, j16_11, j16_12, j16_13, j16_14⟩ := cells15 BK451.out))
       repeat (go_quiet (first | (go_at_call 22; (with_reducible refine (r03Plain.calls k a0_0 a0_1 a0_2 a0_3 a0_4 a0_5 a0_6 a0_7 a0_8 a0_9 _ _ l0_10 t452 _ ?side1 ?side2 A5.out).mono ?_); (case side1 => repeat (first | exact (Kd.C_below HR0_10.out HB.out) | (with_reducible refine Kd.C_alloc ?_ _) | (with_reducible refine Kd.C_drewN ?_ _) | (with_reducible refine Kd.C_drew ?_))); (case side2 => exact HC0_10.out); rintro e w15 ⟨rfl, hb⟩; have n0_ := Sd.mk (blk_below (g := gb451) blk_ hb); have n1_ := Sd.mk (below_step bel_ hb); clear BK451; clear HB; have BK451 := n0_; have HB := n1_; clear n0_ n1_; (try clear hb); (try clear hb2); (try clear hk); (try clear hi); obtain ⟨z16_0, z16_1, z16_2, z16_3, z16_4, z16_5, z16_6, z16_7, z16_8, z16_9, z16_10, z16_11, z16_12, z16_13, z16_14, j16_0, j16_1, j16_2, j16_3, j16_4, j16_5, j16_6, j16_7, j16_8, j16_9, j16_10, j16_11, j16_12, j16_13, j16_14⟩ := cells15 BK451.out)); try go_wp2_with (first | (go_at_call 22; (with_reducible refine (r03Plain.calls k a0_0 a0_1 a0_2 a0_3 a0_4 a0_5 a0_6 a0_7 a0_8 a0_9 _ _ l0_10 t452 _ ?side1 ?side2 A5.out).mono ?_); (case side1 => repeat (first | exact (Kd.C_below HR0_10.out HB.out) | (with_reducible refine Kd.C_alloc ?_ _) | (with_reducible refine Kd.C_drewN ?_ _) | (with_reducible refine Kd.C_drew ?_))); (case side2 => exact HC0_10.out); rintro e w15 ⟨rfl, hb⟩; have n0_ := Sd.mk (blk_below (g := gb451) blk_ hb); have n1_ := Sd.mk (below_step bel_ hb); clear BK451; clear HB; have BK451 := n0_; have HB := n1_; clear n0_ n1_; (try clear hb); (try clear hb2); (try clear hk); (try clear hi); obtain ⟨z16_0, z16_1, z16_2, z16_3, z16_4, z16_5, z16_6, z16_7, z16_8, z16_9, z16_10, z16_11, z16_12, z16_13, z16_14, j16_0, j16_1, j16_2, j16_3, j16_4, j16_5, j16_6, j16_7, j16_8, j16_9, j16_10, j16_11, j16_12, j16_13, j16_14⟩ := cells15 BK451.out)))
       go_meet
       case rel => exact ⟨_, (true), (by first | rfl | (simp; done) | (simp [*]; done)), H', ⟨by first | omega | exact Nat.le_refl _⟩, ⟨blk_⟩, ⟨bel_⟩⟩
      ·
       rw [if_neg c13] at H
       have c13b0 : decide (1000 < (l0_14.length : Int)) = false := decide_eq_false c13
       have c13b1 : decide (1000 < l0_14.length) = false := decide_eq_false (by omega)
       clear c13
       by_cases c17 : a1 < 0
       ·
        rw [if_pos c17] at H
        have c17b0 : decide (a1 < 0) = true := decide_eq_true c17
        clear c17
        have H' := Sd.mk H
        clear H
        obtain ⟨z18_0, z18_1, z18_2, z18_3, z18_4, z18_5, z18_6, z18_7, z18_8, z18_9, z18_10, z18_11, z18_12, z18_13, z18_14, j18_0, j18_1, j18_2, j18_3, j18_4, j18_5, j18_6, j18_7, j18_8, j18_9, j18_10, j18_11, j18_12, j18_13, j18_14⟩ := cells15 BK451.out
        go_wp2_with (first | (go_at_call 22; (with_reducible refine (r03Plain.calls k a0_0 a0_1 a0_2 a0_3 a0_4 a0_5 a0_6 a0_7 a0_8 a0_9 _ _ l0_10 t452 _ ?side1 ?side2 A5.out).mono ?_); (case side1 => repeat (first | exact (Kd.C_below HR0_10.out HB.out) | (with_reducible refine Kd.C_alloc ?_ _) | (with_reducible refine Kd.C_drewN ?_ _) | (with_reducible refine Kd.C_drew ?_))); (case side2 => exact HC0_10.out); rintro e w19 ⟨rfl, hb⟩; have n0_ := Sd.mk (blk_below (g := gb451) blk_ hb); have n1_ := Sd.mk (below_step bel_ hb); clear BK451; clear HB; have BK451 := n0_; have HB := n1_; clear n0_ n1_; (try clear hb); (try clear hb2); (try clear hk); (try clear hi); obtain ⟨z20_0, z20_1, z20_2, z20_3, z20_4, z20_5, z20_6, z20_7, z20_8, z20_9, z20_10, z20_11, z20_12, z20_13, z20_14, j20_0, j20_1, j20_2, j20_3, j20_4, j20_5, j20_6, j20_7, j20_8, j20_9, j20_10, j20_11, j20_12, j20_13, j20_14⟩ := cells15 BK451.out))
        repeat (go_quiet (first | (go_at_call 22; (with_reducible refine (r03Plain.calls k a0_0 a0_1 a0_2 a0_3 a0_4 a0_5 a0_6 a0_7 a0_8 a0_9 _ _ l0_10 t452 _ ?side1 ?side2 A5.out).mono ?_); (case side1 => repeat (first | exact (Kd.C_below HR0_10.out HB.out) | (with_reducible refine Kd.C_alloc ?_ _) | (with_reducible refine Kd.C_drewN ?_ _) | (with_reducible refine Kd.C_drew ?_))); (case side2 => exact HC0_10.out); rintro e w19 ⟨rfl, hb⟩; have n0_ := Sd.mk (blk_below (g := gb451) blk_ hb); have n1_ := Sd.mk (below_step bel_ hb); clear BK451; clear HB; have BK451 := n0_; have HB := n1_; clear n0_ n1_; (try clear hb); (try clear hb2); (try clear hk); (try clear hi); obtain ⟨z20_0, z20_1, z20_2, z20_3, z20_4, z20_5, z20_6, z20_7, z20_8, z20_9, z20_10, z20_11, z20_12, z20_13, z20_14, j20_0, j20_1, j20_2, j20_3, j20_4, j20_5, j20_6, j20_7, j20_8, j20_9, j20_10, j20_11, j20_12, j20_13, j20_14⟩ := cells15 BK451.out)); try go_wp2_with (first | (go_at_call 22; (with_reducible refine (r03Plain.calls k a0_0 a0_1 a0_2 a0_3 a0_4 a0_5 a0_6 a0_7 a0_8 a0_9 _ _ l0_10 t452 _ ?side1 ?side2 A5.out).mono ?_); (case side1 => repeat (first | exact (Kd.C_below HR0_10.out HB.out) | (with_reducible refine Kd.C_alloc ?_ _) | (with_reducible refine Kd.C_drewN ?_ _) | (with_reducible refine Kd.C_drew ?_))); (case side2 => exact HC0_10.out); rintro e w19 ⟨rfl, hb⟩; have n0_ := Sd.mk (blk_below (g := gb451) blk_ hb); have n1_ := Sd.mk (below_step bel_ hb); clear BK451; clear HB; have BK451 := n0_; have HB := n1_; clear n0_ n1_; (try clear hb); (try clear hb2); (try clear hk); (try clear hi); obtain ⟨z20_0, z20_1, z20_2, z20_3, z20_4, z20_5, z20_6, z20_7, z20_8, z20_9, z20_10, z20_11, z20_12, z20_13, z20_14, j20_0, j20_1, j20_2, j20_3, j20_4, j20_5, j20_6, j20_7, j20_8, j20_9, j20_10, j20_11, j20_12, j20_13, j20_14⟩ := cells15 BK451.out)))
        go_meet
        case rel => exact ⟨_, (true), (by first | rfl | (simp; done) | (simp [*]; done)), H', ⟨by first | omega | exact Nat.le_refl _⟩, ⟨blk_⟩, ⟨bel_⟩⟩
       ·
        rw [if_neg c17] at H
        have c17b0 : decide (a1 < 0) = false := decide_eq_false c17
        clear c17
        have H' := Sd.mk H
        clear H
        obtain ⟨z21_0, z21_1, z21_2, z21_3, z21_4, z21_5, z21_6, z21_7, z21_8, z21_9, z21_10, z21_11, z21_12, z21_13, z21_14, j21_0, j21_1, j21_2, j21_3, j21_4, j21_5, j21_6, j21_7, j21_8, j21_9, j21_10, j21_11, j21_12, j21_13, j21_14⟩ := cells15 BK451.out
        go_wp2_with (first | (go_at_call 22; (with_reducible refine (r03Plain.calls k a0_0 a0_1 a0_2 a0_3 a0_4 a0_5 a0_6 a0_7 a0_8 a0_9 _ _ l0_10 t452 _ ?side1 ?side2 A5.out).mono ?_); (case side1 => repeat (first | exact (Kd.C_below HR0_10.out HB.out) | (with_reducible refine Kd.C_alloc ?_ _) | (with_reducible refine Kd.C_drewN ?_ _) | (with_reducible refine Kd.C_drew ?_))); (case side2 => exact HC0_10.out); rintro e w22 ⟨rfl, hb⟩; have n0_ := Sd.mk (blk_below (g := gb451) blk_ hb); have n1_ := Sd.mk (below_step bel_ hb); clear BK451; clear HB; have BK451 := n0_; have HB := n1_; clear n0_ n1_; (try clear hb); (try clear hb2); (try clear hk); (try clear hi); obtain ⟨z23_0, z23_1, z23_2, z23_3, z23_4, z23_5, z23_6, z23_7, z23_8, z23_9, z23_10, z23_11, z23_12, z23_13, z23_14, j23_0, j23_1, j23_2, j23_3, j23_4, j23_5, j23_6, j23_7, j23_8, j23_9, j23_10, j23_11, j23_12, j23_13, j23_14⟩ := cells15 BK451.out))
        repeat (go_quiet (first | (go_at_call 22; (with_reducible refine (r03Plain.calls k a0_0 a0_1 a0_2 a0_3 a0_4 a0_5 a0_6 a0_7 a0_8 a0_9 _ _ l0_10 t452 _ ?side1 ?side2 A5.out).mono ?_); (case side1 => repeat (first | exact (Kd.C_below HR0_10.out HB.out) | (with_reducible refine Kd.C_alloc ?_ _) | (with_reducible refine Kd.C_drewN ?_ _) | (with_reducible refine Kd.C_drew ?_))); (case side2 => exact HC0_10.out); rintro e w22 ⟨rfl, hb⟩; have n0_ := Sd.mk (blk_below (g := gb451) blk_ hb); have n1_ := Sd.mk (below_step bel_ hb); clear BK451; clear HB; have BK451 := n0_; have HB := n1_; clear n0_ n1_; (try clear hb); (try clear hb2); (try clear hk); (try clear hi); obtain ⟨z23_0, z23_1, z23_2, z23_3, z23_4, z23_5, z23_6, z23_7, z23_8, z23_9, z23_10, z23_11, z23_12, z23_13, z23_14, j23_0, j23_1, j23_2, j23_3, j23_4, j23_5, j23_6, j23_7, j23_8, j23_9, j23_10, j23_11, j23_12, j23_13, j23_14⟩ := cells15 BK451.out)); try go_wp2_with (first | (go_at_call 22; (with_reducible refine (r03Plain.calls k a0_0 a0_1 a0_2 a0_3 a0_4 a0_5 a0_6 a0_7 a0_8 a0_9 _ _ l0_10 t452 _ ?side1 ?side2 A5.out).mono ?_); (case side1 => repeat (first | exact (Kd.C_below HR0_10.out HB.out) | (with_reducible refine Kd.C_alloc ?_ _) | (with_reducible refine Kd.C_drewN ?_ _) | (with_reducible refine Kd.C_drew ?_))); (case side2 => exact HC0_10.out); rintro e w22 ⟨rfl, hb⟩; have n0_ := Sd.mk (blk_below (g := gb451) blk_ hb); have n1_ := Sd.mk (below_step bel_ hb); clear BK451; clear HB; have BK451 := n0_; have HB := n1_; clear n0_ n1_; (try clear hb); (try clear hb2); (try clear hk); (try clear hi); obtain ⟨z23_0, z23_1, z23_2, z23_3, z23_4, z23_5, z23_6, z23_7, z23_8, z23_9, z23_10, z23_11, z23_12, z23_13, z23_14, j23_0, j23_1, j23_2, j23_3, j23_4, j23_5, j23_6, j23_7, j23_8, j23_9, j23_10, j23_11, j23_12, j23_13, j23_14⟩ := cells15 BK451.out)))
        go_meet
        case rel => exact ⟨_, (decide (a1 > 100)), (by first | rfl | (simp; done) | (simp [*]; done)), H', ⟨by first | omega | exact Nat.le_refl _⟩, ⟨blk_⟩, ⟨bel_⟩⟩
    ·
     rw [if_neg c8] at H
     have c8b0 : ((l0_12.length : Int) == a0_0) = false := beq_eq_false_iff_ne.mpr c8
     have c8b1 : ((l0_12.length : Int) != a0_0) = true := bne_iff_ne.mpr c8
     have H' := Sd.mk H
     clear H
     obtain ⟨z24_0, z24_1, z24_2, z24_3, z24_4, z24_5, z24_6, z24_7, z24_8, z24_9, z24_10, z24_11, z24_12, z24_13, z24_14, j24_0, j24_1, j24_2, j24_3, j24_4, j24_5, j24_6, j24_7, j24_8, j24_9, j24_10, j24_11, j24_12, j24_13, j24_14⟩ := cells15 BK451.out
     go_wp2_with (first | (go_at_call 22; (with_reducible refine (r03Plain.calls k a0_0 a0_1 a0_2 a0_3 a0_4 a0_5 a0_6 a0_7 a0_8 a0_9 _ _ l0_10 t452 _ ?side1 ?side2 A5.out).mono ?_); (case side1 => repeat (first | exact (Kd.C_below HR0_10.out HB.out) | (with_reducible refine Kd.C_alloc ?_ _) | (with_reducible refine Kd.C_drewN ?_ _) | (with_reducible refine Kd.C_drew ?_))); (case side2 => exact HC0_10.out); rintro e w25 ⟨rfl, hb⟩; have n0_ := Sd.mk (blk_below (g := gb451) blk_ hb); have n1_ := Sd.mk (below_step bel_ hb); clear BK451; clear HB; have BK451 := n0_; have HB := n1_; clear n0_ n1_; (try clear hb); (try clear hb2); (try clear hk); (try clear hi); obtain ⟨z26_0, z26_1, z26_2, z26_3, z26_4, z26_5, z26_6, z26_7, z26_8, z26_9, z26_10, z26_11, z26_12, z26_13, z26_14, j26_0, j26_1, j26_2, j26_3, j26_4, j26_5, j26_6, j26_7, j26_8, j26_9, j26_10, j26_11, j26_12, j26_13, j26_14⟩ := cells15 BK451.out))
     repeat (go_quiet (first | (go_at_call 22; (with_reducible refine (r03Plain.calls k a0_0 a0_1 a0_2 a0_3 a0_4 a0_5 a0_6 a0_7 a0_8 a0_9 _ _ l0_10 t452 _ ?side1 ?side2 A5.out).mono ?_); (case side1 => repeat (first | exact (Kd.C_below HR0_10.out HB.out) | (with_reducible refine Kd.C_alloc ?_ _) | (with_reducible refine Kd.C_drewN ?_ _) | (with_reducible refine Kd.C_drew ?_))); (case side2 => exact HC0_10.out); rintro e w25 ⟨rfl, hb⟩; have n0_ := Sd.mk (blk_below (g := gb451) blk_ hb); have n1_ := Sd.mk (below_step bel_ hb); clear BK451; clear HB; have BK451 := n0_; have HB := n1_; clear n0_ n1_; (try clear hb); (try clear hb2); (try clear hk); (try clear hi); obtain ⟨z26_0, z26_1, z26_2, z26_3, z26_4, z26_5, z26_6, z26_7, z26_8, z26_9, z26_10, z26_11, z26_12, z26_13, z26_14, j26_0, j26_1, j26_2, j26_3, j26_4, j26_5, j26_6, j26_7, j26_8, j26_9, j26_10, j26_11, j26_12, j26_13, j26_14⟩ := cells15 BK451.out)); try go_wp2_with (first | (go_at_call 22; (with_reducible refine (r03Plain.calls k a0_0 a0_1 a0_2 a0_3 a0_4 a0_5 a0_6 a0_7 a0_8 a0_9 _ _ l0_10 t452 _ ?side1 ?side2 A5.out).mono ?_); (case side1 => repeat (first | exact (Kd.C_below HR0_10.out HB.out) | (with_reducible refine Kd.C_alloc ?_ _) | (with_reducible refine Kd.C_drewN ?_ _) | (with_reducible refine Kd.C_drew ?_))); (case side2 => exact HC0_10.out); rintro e w25 ⟨rfl, hb⟩; have n0_ := Sd.mk (blk_below (g := gb451) blk_ hb); have n1_ := Sd.mk (below_step bel_ hb); clear BK451; clear HB; have BK451 := n0_; have HB := n1_; clear n0_ n1_; (try clear hb); (try clear hb2); (try clear hk); (try clear hi); obtain ⟨z26_0, z26_1, z26_2, z26_3, z26_4, z26_5, z26_6, z26_7, z26_8, z26_9, z26_10, z26_11, z26_12, z26_13, z26_14, j26_0, j26_1, j26_2, j26_3, j26_4, j26_5, j26_6, j26_7, j26_8, j26_9, j26_10, j26_11, j26_12, j26_13, j26_14⟩ := cells15 BK451.out)))
     go_meet
     case rel => exact ⟨_, (true), (by first | rfl | (simp; done) | (simp [*]; done)), H', ⟨by first | omega | exact Nat.le_refl _⟩, ⟨blk_⟩, ⟨bel_⟩⟩
   ·
    rw [if_neg c7] at H
    have c7b0 : ((l0_11.length : Int) == a0_0) = false := beq_eq_false_iff_ne.mpr c7
    have c7b1 : ((l0_11.length : Int) != a0_0) = true := bne_iff_ne.mpr c7
    have H' := Sd.mk H
    clear H
    obtain ⟨z27_0, z27_1, z27_2, z27_3, z27_4, z27_5, z27_6, z27_7, z27_8, z27_9, z27_10, z27_11, z27_12, z27_13, z27_14, j27_0, j27_1, j27_2, j27_3, j27_4, j27_5, j27_6, j27_7, j27_8, j27_9, j27_10, j27_11, j27_12, j27_13, j27_14⟩ := cells15 BK451.out
    go_wp2_with (first | (go_at_call 22; (with_reducible refine (r03Plain.calls k a0_0 a0_1 a0_2 a0_3 a0_4 a0_5 a0_6 a0_7 a0_8 a0_9 _ _ l0_10 t452 _ ?side1 ?side2 A5.out).mono ?_); (case side1 => repeat (first | exact (Kd.C_below HR0_10.out HB.out) | (with_reducible refine Kd.C_alloc ?_ _) | (with_reducible refine Kd.C_drewN ?_ _) | (with_reducible refine Kd.C_drew ?_))); (case side2 => exact HC0_10.out); rintro e w28 ⟨rfl, hb⟩; have n0_ := Sd.mk (blk_below (g := gb451) blk_ hb); have n1_ := Sd.mk (below_step bel_ hb); clear BK451; clear HB; have BK451 := n0_; have HB := n1_; clear n0_ n1_; (try clear hb); (try clear hb2); (try clear hk); (try clear hi); obtain ⟨z29_0, z29_1, z29_2, z29_3, z29_4, z29_5, z29_6, z29_7, z29_8, z29_9, z29_10, z29_11, z29_12, z29_13, z29_14, j29_0, j29_1, j29_2, j29_3, j29_4, j29_5, j29_6, j29_7, j29_8, j29_9, j29_10, j29_11, j29_12, j29_13, j29_14⟩ := cells15 BK451.out))
    repeat (go_quiet (first | (go_at_call 22; (with_reducible refine (r03Plain.calls k a0_0 a0_1 a0_2 a0_3 a0_4 a0_5 a0_6 a0_7 a0_8 a0_9 _ _ l0_10 t452 _ ?side1 ?side2 A5.out).mono ?_); (case side1 => repeat (first | exact (Kd.C_below HR0_10.out HB.out) | (with_reducible refine Kd.C_alloc ?_ _) | (with_reducible refine Kd.C_drewN ?_ _) | (with_reducible refine Kd.C_drew ?_))); (case side2 => exact HC0_10.out); rintro e w28 ⟨rfl, hb⟩; have n0_ := Sd.mk (blk_below (g := gb451) blk_ hb); have n1_ := Sd.mk (below_step bel_ hb); clear BK451; clear HB; have BK451 := n0_; have HB := n1_; clear n0_ n1_; (try clear hb); (try clear hb2); (try clear hk); (try clear hi); obtain ⟨z29_0, z29_1, z29_2, z29_3, z29_4, z29_5, z29_6, z29_7, z29_8, z29_9, z29_10, z29_11, z29_12, z29_13, z29_14, j29_0, j29_1, j29_2, j29_3, j29_4, j29_5, j29_6, j29_7, j29_8, j29_9, j29_10, j29_11, j29_12, j29_13, j29_14⟩ := cells15 BK451.out)); try go_wp2_with (first | (go_at_call 22; (with_reducible refine (r03Plain.calls k a0_0 a0_1 a0_2 a0_3 a0_4 a0_5 a0_6 a0_7 a0_8 a0_9 _ _ l0_10 t452 _ ?side1 ?side2 A5.out).mono ?_); (case side1 => repeat (first | exact (Kd.C_below HR0_10.out HB.out) | (with_reducible refine Kd.C_alloc ?_ _) | (with_reducible refine Kd.C_drewN ?_ _) | (with_reducible refine Kd.C_drew ?_))); (case side2 => exact HC0_10.out); rintro e w28 ⟨rfl, hb⟩; have n0_ := Sd.mk (blk_below (g := gb451) blk_ hb); have n1_ := Sd.mk (below_step bel_ hb); clear BK451; clear HB; have BK451 := n0_; have HB := n1_; clear n0_ n1_; (try clear hb); (try clear hb2); (try clear hk); (try clear hi); obtain ⟨z29_0, z29_1, z29_2, z29_3, z29_4, z29_5, z29_6, z29_7, z29_8, z29_9, z29_10, z29_11, z29_12, z29_13, z29_14, j29_0, j29_1, j29_2, j29_3, j29_4, j29_5, j29_6, j29_7, j29_8, j29_9, j29_10, j29_11, j29_12, j29_13, j29_14⟩ := cells15 BK451.out)))
    go_meet
    case rel => exact ⟨_, (true), (by first | rfl | (simp; done) | (simp [*]; done)), H', ⟨by first | omega | exact Nat.le_refl _⟩, ⟨blk_⟩, ⟨bel_⟩⟩
  ·
   rw [if_neg c6] at H
   have c6b0 : (t452 == 0) = false := beq_eq_false_iff_ne.mpr c6
   have c6b1 : (t452 != 0) = true := bne_iff_ne.mpr c6
   (first | rw [c6b0] | (simp only [i64_w, i32_w]; rw [c6b0]) | skip)
   (try rw [c6b1])
   have H' := Sd.mk H
   clear H
   obtain ⟨z30_0, z30_1, z30_2, z30_3, z30_4, z30_5, z30_6, z30_7, z30_8, z30_9, z30_10, z30_11, z30_12, z30_13, z30_14, j30_0, j30_1, j30_2, j30_3, j30_4, j30_5, j30_6, j30_7, j30_8, j30_9, j30_10, j30_11, j30_12, j30_13, j30_14⟩ := cells15 BK451.out
   go_wp2_with (first | (go_at_call 22; (with_reducible refine (r03Plain.calls k a0_0 a0_1 a0_2 a0_3 a0_4 a0_5 a0_6 a0_7 a0_8 a0_9 _ _ l0_10 t452 _ ?side1 ?side2 A5.out).mono ?_); (case side1 => repeat (first | exact (Kd.C_below HR0_10.out HB.out) | (with_reducible refine Kd.C_alloc ?_ _) | (with_reducible refine Kd.C_drewN ?_ _) | (with_reducible refine Kd.C_drew ?_))); (case side2 => exact HC0_10.out); rintro e w31 ⟨rfl, hb⟩; have n0_ := Sd.mk (blk_below (g := gb451) blk_ hb); have n1_ := Sd.mk (below_step bel_ hb); clear BK451; clear HB; have BK451 := n0_; have HB := n1_; clear n0_ n1_; (try clear hb); (try clear hb2); (try clear hk); (try clear hi)))
   repeat (go_quiet (first | (go_at_call 22; (with_reducible refine (r03Plain.calls k a0_0 a0_1 a0_2 a0_3 a0_4 a0_5 a0_6 a0_7 a0_8 a0_9 _ _ l0_10 t452 _ ?side1 ?side2 A5.out).mono ?_); (case side1 => repeat (first | exact (Kd.C_below HR0_10.out HB.out) | (with_reducible refine Kd.C_alloc ?_ _) | (with_reducible refine Kd.C_drewN ?_ _) | (with_reducible refine Kd.C_drew ?_))); (case side2 => exact HC0_10.out); rintro e w31 ⟨rfl, hb⟩; have n0_ := Sd.mk (blk_below (g := gb451) blk_ hb); have n1_ := Sd.mk (below_step bel_ hb); clear BK451; clear HB; have BK451 := n0_; have HB := n1_; clear n0_ n1_; (try clear hb); (try clear hb2); (try clear hk); (try clear hi))); try go_wp2_with (first | (go_at_call 22; (with_reducible refine (r03Plain.calls k a0_0 a0_1 a0_2 a0_3 a0_4 a0_5 a0_6 a0_7 a0_8 a0_9 _ _ l0_10 t452 _ ?side1 ?side2 A5.out).mono ?_); (case side1 => repeat (first | exact (Kd.C_below HR0_10.out HB.out) | (with_reducible refine Kd.C_alloc ?_ _) | (with_reducible refine Kd.C_drewN ?_ _) | (with_reducible refine Kd.C_drew ?_))); (case side2 => exact HC0_10.out); rintro e w31 ⟨rfl, hb⟩; have n0_ := Sd.mk (blk_below (g := gb451) blk_ hb); have n1_ := Sd.mk (below_step bel_ hb); clear BK451; clear HB; have BK451 := n0_; have HB := n1_; clear n0_ n1_; (try clear hb); (try clear hb2); (try clear hk); (try clear hi))))
   go_meet
   case rel => exact ⟨_, (true), (by first | rfl | (simp; done) | (simp [*]; done)), H', ⟨by first | omega | exact Nat.le_refl _⟩, ⟨blk_⟩, ⟨bel_⟩⟩
 case rest =>
  clear HC3
  try clear c1
  try clear p2
  try clear c6
  try clear c6b0
  try clear c6b1
  try clear c7
  try clear c7b0
  try clear c7b1
  try clear c8
  try clear c8b0
  try clear c8b1
  try clear c9
  try clear c9b0
  try clear c13
  try clear c13b0
  try clear c13b1
  try clear c14
  try clear c17
  try clear c17b0
  try clear z10_0 z10_1 z10_10 z10_11 z10_12 z10_13 z10_14 z10_2 z10_3 z10_4 z10_5 z10_6 z10_7 z10_8 z10_9
  try clear z12_0 z12_1 z12_10 z12_11 z12_12 z12_13 z12_14 z12_2 z12_3 z12_4 z12_5 z12_6 z12_7 z12_8 z12_9
  try clear z14_0 z14_1 z14_10 z14_11 z14_12 z14_13 z14_14 z14_2 z14_3 z14_4 z14_5 z14_6 z14_7 z14_8 z14_9
  try clear z16_0 z16_1 z16_10 z16_11 z16_12 z16_13 z16_14 z16_2 z16_3 z16_4 z16_5 z16_6 z16_7 z16_8 z16_9
  try clear z18_0 z18_1 z18_10 z18_11 z18_12 z18_13 z18_14 z18_2 z18_3 z18_4 z18_5 z18_6 z18_7 z18_8 z18_9
  try clear z20_0 z20_1 z20_10 z20_11 z20_12 z20_13 z20_14 z20_2 z20_3 z20_4 z20_5 z20_6 z20_7 z20_8 z20_9
  try clear z21_0 z21_1 z21_10 z21_11 z21_12 z21_13 z21_14 z21_2 z21_3 z21_4 z21_5 z21_6 z21_7 z21_8 z21_9
  try clear z23_0 z23_1 z23_10 z23_11 z23_12 z23_13 z23_14 z23_2 z23_3 z23_4 z23_5 z23_6 z23_7 z23_8 z23_9
  try clear z24_0 z24_1 z24_10 z24_11 z24_12 z24_13 z24_14 z24_2 z24_3 z24_4 z24_5 z24_6 z24_7 z24_8 z24_9
  try clear z26_0 z26_1 z26_10 z26_11 z26_12 z26_13 z26_14 z26_2 z26_3 z26_4 z26_5 z26_6 z26_7 z26_8 z26_9
  try clear z27_0 z27_1 z27_10 z27_11 z27_12 z27_13 z27_14 z27_2 z27_3 z27_4 z27_5 z27_6 z27_7 z27_8 z27_9
  try clear z29_0 z29_1 z29_10 z29_11 z29_12 z29_13 z29_14 z29_2 z29_3 z29_4 z29_5 z29_6 z29_7 z29_8 z29_9
  try clear z30_0 z30_1 z30_10 z30_11 z30_12 z30_13 z30_14 z30_2 z30_3 z30_4 z30_5 z30_6 z30_7 z30_8 z30_9
  try clear j10_0 j10_1 j10_10 j10_11 j10_12 j10_13 j10_14 j10_2 j10_3 j10_4 j10_5 j10_6 j10_7 j10_8 j10_9
  try clear j12_0 j12_1 j12_10 j12_11 j12_12 j12_13 j12_14 j12_2 j12_3 j12_4 j12_5 j12_6 j12_7 j12_8 j12_9
  try clear j14_0 j14_1 j14_10 j14_11 j14_12 j14_13 j14_14 j14_2 j14_3 j14_4 j14_5 j14_6 j14_7 j14_8 j14_9
  try clear j16_0 j16_1 j16_10 j16_11 j16_12 j16_13 j16_14 j16_2 j16_3 j16_4 j16_5 j16_6 j16_7 j16_8 j16_9
  try clear j18_0 j18_1 j18_10 j18_11 j18_12 j18_13 j18_14 j18_2 j18_3 j18_4 j18_5 j18_6 j18_7 j18_8 j18_9
  try clear j20_0 j20_1 j20_10 j20_11 j20_12 j20_13 j20_14 j20_2 j20_3 j20_4 j20_5 j20_6 j20_7 j20_8 j20_9
  try clear j21_0 j21_1 j21_10 j21_11 j21_12 j21_13 j21_14 j21_2 j21_3 j21_4 j21_5 j21_6 j21_7 j21_8 j21_9
  try clear j23_0 j23_1 j23_10 j23_11 j23_12 j23_13 j23_14 j23_2 j23_3 j23_4 j23_5 j23_6 j23_7 j23_8 j23_9
  try clear j24_0 j24_1 j24_10 j24_11 j24_12 j24_13 j24_14 j24_2 j24_3 j24_4 j24_5 j24_6 j24_7 j24_8 j24_9
  try clear j26_0 j26_1 j26_10 j26_11 j26_12 j26_13 j26_14 j26_2 j26_3 j26_4 j26_5 j26_6 j26_7 j26_8 j26_9
  try clear j27_0 j27_1 j27_10 j27_11 j27_12 j27_13 j27_14 j27_2 j27_3 j27_4 j27_5 j27_6 j27_7 j27_8 j27_9
  try clear j29_0 j29_1 j29_10 j29_11 j29_12 j29_13 j29_14 j29_2 j29_3 j29_4 j29_5 j29_6 j29_7 j29_8 j29_9
  try clear j30_0 j30_1 j30_10 j30_11 j30_12 j30_13 j30_14 j30_2 j30_3 j30_4 j30_5 j30_6 j30_7 j30_8 j30_9
  obtain ⟨kq, x55_2, rfl, HA, HJ2, BK451, HB⟩ := hcut
  cases kq with
  | zero => exact absurd HA.out (by simp [l18BeatSettles.j0])
  | succ kj2 =>
   have H := HA.out
   clear HA
   simp only [l18BeatSettles.j0] at H
   by_cases c32 : x55_2 = true
   ·
    subst c32
    have H1 : ((l18known.f kj2).bind fun t453 => (some t453)) = some r := by rw [if_pos rfl] at H; exact H
    clear H
    have H := H1
    clear H1
    replace H := Option.bind_eq_some_iff.mp H
    obtain ⟨t453, A330, H⟩ := H
    replace H : (some t453) = some r := H
    have A33 := Sd.mk A330
    clear A330
    obtain rfl := Option.some.inj H
    go_wp2_with (first | (go_at_call 46; (with_reducible refine (l18known.calls kj2  t453 _ A33.out).mono ?_); rintro e w34 ⟨rfl, hb⟩; have n0_ := Sd.mk (blk_below (g := gb451) blk_ hb); have n1_ := Sd.mk (below_step bel_ hb); clear BK451; clear HB; have BK451 := n0_; have HB := n1_; clear n0_ n1_; (try clear hb); (try clear hb2); (try clear hk); (try clear hi)))
    repeat (go_quiet (first | (go_at_call 46; (with_reducible refine (l18known.calls kj2  t453 _ A33.out).mono ?_); rintro e w34 ⟨rfl, hb⟩; have n0_ := Sd.mk (blk_below (g := gb451) blk_ hb); have n1_ := Sd.mk (below_step bel_ hb); clear BK451; clear HB; have BK451 := n0_; have HB := n1_; clear n0_ n1_; (try clear hb); (try clear hb2); (try clear hk); (try clear hi))); try go_wp2_with (first | (go_at_call 46; (with_reducible refine (l18known.calls kj2  t453 _ A33.out).mono ?_); rintro e w34 ⟨rfl, hb⟩; have n0_ := Sd.mk (blk_below (g := gb451) blk_ hb); have n1_ := Sd.mk (below_step bel_ hb); clear BK451; clear HB; have BK451 := n0_; have HB := n1_; clear n0_ n1_; (try clear hb); (try clear hb2); (try clear hk); (try clear hi))))
    go_ret
    exact ⟨by first | rfl | (simp [errW_none, errW_some] <;> rfl) | (simp [*, errW_none, errW_some] <;> rfl), bel_⟩
   ·
    replace c32 := Bool.eq_false_iff.mpr c32
    subst c32
    have H1 : ((r04Settle.f kj2 a0_0 a0_1 a0_2 a0_3 a0_4 a0_5 a0_6 a0_7 a0_8 a0_9 l0_10).bind fun t454 => ((l18Cluster_runs.f kj2 a0_0 a0_1 a0_2 a0_3 a0_4 a0_5 a0_6 a0_7 a0_8 a0_9 l0_10 l0_11 l0_12 l0_13 l0_14 (wrap64 (t454 + a1))).bind fun t455 => (l18BeatSettles.l0 kj2 t454 t455 0 a0_0 a0_1 a0_2 a0_3 a0_4 a0_5 a0_6 a0_7 a0_8 a0_9 l0_10 l0_11 l0_12 l0_13 l0_14))) = some r := by rw [if_neg (show ¬ (false = true) by decide)] at H; exact H
    clear H
    have H := H1
    clear H1
    replace H := Option.bind_eq_some_iff.mp H
    obtain ⟨t454, A350, H⟩ := H
    replace H : ((l18Cluster_runs.f kj2 a0_0 a0_1 a0_2 a0_3 a0_4 a0_5 a0_6 a0_7 a0_8 a0_9 l0_10 l0_11 l0_12 l0_13 l0_14 (wrap64 (t454 + a1))).bind fun t455 => (l18BeatSettles.l0 kj2 t454 t455 0 a0_0 a0_1 a0_2 a0_3 a0_4 a0_5 a0_6 a0_7 a0_8 a0_9 l0_10 l0_11 l0_12 l0_13 l0_14)) = some r := H
    have A35 := Sd.mk A350
    clear A350
    replace H := Option.bind_eq_some_iff.mp H
    obtain ⟨t455, A360, H⟩ := H
    replace H : (l18BeatSettles.l0 kj2 t454 t455 0 a0_0 a0_1 a0_2 a0_3 a0_4 a0_5 a0_6 a0_7 a0_8 a0_9 l0_10 l0_11 l0_12 l0_13 l0_14) = some r := H
    have A36 := Sd.mk A360
    clear A360
    have HC37 := Sd.mk H
    clear H
    obtain ⟨z38_0, z38_1, z38_2, z38_3, z38_4, z38_5, z38_6, z38_7, z38_8, z38_9, z38_10, z38_11, z38_12, z38_13, z38_14, j38_0, j38_1, j38_2, j38_3, j38_4, j38_5, j38_6, j38_7, j38_8, j38_9, j38_10, j38_11, j38_12, j38_13, j38_14⟩ := cells15 BK451.out
    go_upto_block 0 with (first | (go_at_call 52; (with_reducible refine (r04Settle.calls kj2 a0_0 a0_1 a0_2 a0_3 a0_4 a0_5 a0_6 a0_7 a0_8 a0_9 _ _ l0_10 t454 _ ?side1 ?side2 A35.out).mono ?_); (case side1 => repeat (first | exact (Kd.C_below HR0_10.out HB.out) | (with_reducible refine Kd.C_alloc ?_ _) | (with_reducible refine Kd.C_drewN ?_ _) | (with_reducible refine Kd.C_drew ?_))); (case side2 => exact HC0_10.out); rintro e w39 ⟨rfl, hb⟩; have n0_ := Sd.mk (blk_below (g := gb451) blk_ hb); have n1_ := Sd.mk (below_step bel_ hb); clear BK451; clear HB; have BK451 := n0_; have HB := n1_; clear n0_ n1_; (try clear hb); (try clear hb2); (try clear hk); (try clear hi); obtain ⟨z40_0, z40_1, z40_2, z40_3, z40_4, z40_5, z40_6, z40_7, z40_8, z40_9, z40_10, z40_11, z40_12, z40_13, z40_14, j40_0, j40_1, j40_2, j40_3, j40_4, j40_5, j40_6, j40_7, j40_8, j40_9, j40_10, j40_11, j40_12, j40_13, j40_14⟩ := cells15 BK451.out) | (go_at_call 53; (with_reducible refine (l18Cluster_runs.calls kj2 a0_0 a0_1 a0_2 a0_3 a0_4 a0_5 a0_6 a0_7 a0_8 a0_9 _ _ l0_10 _ _ l0_11 _ _ l0_12 _ _ l0_13 _ _ l0_14 (wrap64 (t454 + a1)) t455 _ ?side1 ?side2 ?side3 ?side4 ?side5 ?side6 ?side7 ?side8 ?side9 ?side10 A36.out).mono ?_); (case side1 => repeat (first | exact (Kd.C_below HR0_10.out HB.out) | (with_reducible refine Kd.C_alloc ?_ _) | (with_reducible refine Kd.C_drewN ?_ _) | (with_reducible refine Kd.C_drew ?_))); (case side2 => exact HC0_10.out); (case side3 => repeat (first | exact (Kd.C_below HR0_11.out HB.out) | (with_reducible refine Kd.C_alloc ?_ _) | (with_reducible refine Kd.C_drewN ?_ _) | (with_reducible refine Kd.C_drew ?_))); (case side4 => exact HC0_11.out); (case side5 => repeat (first | exact (Kd.C_below HR0_12.out HB.out) | (with_reducible refine Kd.C_alloc ?_ _) | (with_reducible refine Kd.C_drewN ?_ _) | (with_reducible refine Kd.C_drew ?_))); (case side6 => exact HC0_12.out); (case side7 => repeat (first | exact (Kd.C_below HR0_13.out HB.out) | (with_reducible refine Kd.C_alloc ?_ _) | (with_reducible refine Kd.C_drewN ?_ _) | (with_reducible refine Kd.C_drew ?_))); (case side8 => exact HC0_13.out); (case side9 => repeat (first | exact (Kd.C_below HR0_14.out HB.out) | (with_reducible refine Kd.C_alloc ?_ _) | (with_reducible refine Kd.C_drewN ?_ _) | (with_reducible refine Kd.C_drew ?_))); (case side10 => exact HC0_14.out); rintro e w41 ⟨v456, rfl, ho0, hb⟩; have n0_ := Sd.mk (Kd.R_lower ho0 (below_size bel_)); have n1_ := Sd.mk (blk_below (g := gb451) blk_ hb); have n2_ := Sd.mk (below_step bel_ hb); clear BK451; clear HB; have HO457 := n0_; have BK451 := n1_; have HB := n2_; clear n0_ n1_ n2_; (try clear hb); (try clear hb2); (try clear hk); (try clear hi); (try clear ho0)))
    repeat (go_quiet (first | (go_at_call 52; (with_reducible refine (r04Settle.calls kj2 a0_0 a0_1 a0_2 a0_3 a0_4 a0_5 a0_6 a0_7 a0_8 a0_9 _ _ l0_10 t454 _ ?side1 ?side2 A35.out).mono ?_); (case side1 => repeat (first | exact (Kd.C_below HR0_10.out HB.out) | (with_reducible refine Kd.C_alloc ?_ _) | (with_reducible refine Kd.C_drewN ?_ _) | (with_reducible refine Kd.C_drew ?_))); (case side2 => exact HC0_10.out); rintro e w39 ⟨rfl, hb⟩; have n0_ := Sd.mk (blk_below (g := gb451) blk_ hb); have n1_ := Sd.mk (below_step bel_ hb); clear BK451; clear HB; have BK451 := n0_; have HB := n1_; clear n0_ n1_; (try clear hb); (try clear hb2); (try clear hk); (try clear hi); obtain ⟨z40_0, z40_1, z40_2, z40_3, z40_4, z40_5, z40_6, z40_7, z40_8, z40_9, z40_10, z40_11, z40_12, z40_13, z40_14, j40_0, j40_1, j40_2, j40_3, j40_4, j40_5, j40_6, j40_7, j40_8, j40_9, j40_10, j40_11, j40_12, j40_13, j40_14⟩ := cells15 BK451.out) | (go_at_call 53; (with_reducible refine (l18Cluster_runs.calls kj2 a0_0 a0_1 a0_2 a0_3 a0_4 a0_5 a0_6 a0_7 a0_8 a0_9 _ _ l0_10 _ _ l0_11 _ _ l0_12 _ _ l0_13 _ _ l0_14 (wrap64 (t454 + a1)) t455 _ ?side1 ?side2 ?side3 ?side4 ?side5 ?side6 ?side7 ?side8 ?side9 ?side10 A36.out).mono ?_); (case side1 => repeat (first | exact (Kd.C_below HR0_10.out HB.out) | (with_reducible refine Kd.C_alloc ?_ _) | (with_reducible refine Kd.C_drewN ?_ _) | (with_reducible refine Kd.C_drew ?_))); (case side2 => exact HC0_10.out); (case side3 => repeat (first | exact (Kd.C_below HR0_11.out HB.out) | (with_reducible refine Kd.C_alloc ?_ _) | (with_reducible refine Kd.C_drewN ?_ _) | (with_reducible refine Kd.C_drew ?_))); (case side4 => exact HC0_11.out); (case side5 => repeat (first | exact (Kd.C_below HR0_12.out HB.out) | (with_reducible refine Kd.C_alloc ?_ _) | (with_reducible refine Kd.C_drewN ?_ _) | (with_reducible refine Kd.C_drew ?_))); (case side6 => exact HC0_12.out); (case side7 => repeat (first | exact (Kd.C_below HR0_13.out HB.out) | (with_reducible refine Kd.C_alloc ?_ _) | (with_reducible refine Kd.C_drewN ?_ _) | (with_reducible refine Kd.C_drew ?_))); (case side8 => exact HC0_13.out); (case side9 => repeat (first | exact (Kd.C_below HR0_14.out HB.out) | (with_reducible refine Kd.C_alloc ?_ _) | (with_reducible refine Kd.C_drewN ?_ _) | (with_reducible refine Kd.C_drew ?_))); (case side10 => exact HC0_14.out); rintro e w41 ⟨v456, rfl, ho0, hb⟩; have n0_ := Sd.mk (Kd.R_lower ho0 (below_size bel_)); have n1_ := Sd.mk (blk_below (g := gb451) blk_ hb); have n2_ := Sd.mk (below_step bel_ hb); clear BK451; clear HB; have HO457 := n0_; have BK451 := n1_; have HB := n2_; clear n0_ n1_ n2_; (try clear hb); (try clear hb2); (try clear hk); (try clear hi); (try clear ho0))); go_upto_block 0 with (first | (go_at_call 52; (with_reducible refine (r04Settle.calls kj2 a0_0 a0_1 a0_2 a0_3 a0_4 a0_5 a0_6 a0_7 a0_8 a0_9 _ _ l0_10 t454 _ ?side1 ?side2 A35.out).mono ?_); (case side1 => repeat (first | exact (Kd.C_below HR0_10.out HB.out) | (with_reducible refine Kd.C_alloc ?_ _) | (with_reducible refine Kd.C_drewN ?_ _) | (with_reducible refine Kd.C_drew ?_))); (case side2 => exact HC0_10.out); rintro e w39 ⟨rfl, hb⟩; have n0_ := Sd.mk (blk_below (g := gb451) blk_ hb); have n1_ := Sd.mk (below_step bel_ hb); clear BK451; clear HB; have BK451 := n0_; have HB := n1_; clear n0_ n1_; (try clear hb); (try clear hb2); (try clear hk); (try clear hi); obtain ⟨z40_0, z40_1, z40_2, z40_3, z40_4, z40_5, z40_6, z40_7, z40_8, z40_9, z40_10, z40_11, z40_12, z40_13, z40_14, j40_0, j40_1, j40_2, j40_3, j40_4, j40_5, j40_6, j40_7, j40_8, j40_9, j40_10, j40_11, j40_12, j40_13, j40_14⟩ := cells15 BK451.out) | (go_at_call 53; (with_reducible refine (l18Cluster_runs.calls kj2 a0_0 a0_1 a0_2 a0_3 a0_4 a0_5 a0_6 a0_7 a0_8 a0_9 _ _ l0_10 _ _ l0_11 _ _ l0_12 _ _ l0_13 _ _ l0_14 (wrap64 (t454 + a1)) t455 _ ?side1 ?side2 ?side3 ?side4 ?side5 ?side6 ?side7 ?side8 ?side9 ?side10 A36.out).mono ?_); (case side1 => repeat (first | exact (Kd.C_below HR0_10.out HB.out) | (with_reducible refine Kd.C_alloc ?_ _) | (with_reducible refine Kd.C_drewN ?_ _) | (with_reducible refine Kd.C_drew ?_))); (case side2 => exact HC0_10.out); (case side3 => repeat (first | exact (Kd.C_below HR0_11.out HB.out) | (with_reducible refine Kd.C_alloc ?_ _) | (with_reducible refine Kd.C_drewN ?_ _) | (with_reducible refine Kd.C_drew ?_))); (case side4 => exact HC0_11.out); (case side5 => repeat (first | exact (Kd.C_below HR0_12.out HB.out) | (with_reducible refine Kd.C_alloc ?_ _) | (with_reducible refine Kd.C_drewN ?_ _) | (with_reducible refine Kd.C_drew ?_))); (case side6 => exact HC0_12.out); (case side7 => repeat (first | exact (Kd.C_below HR0_13.out HB.out) | (with_reducible refine Kd.C_alloc ?_ _) | (with_reducible refine Kd.C_drewN ?_ _) | (with_reducible refine Kd.C_drew ?_))); (case side8 => exact HC0_13.out); (case side9 => repeat (first | exact (Kd.C_below HR0_14.out HB.out) | (with_reducible refine Kd.C_alloc ?_ _) | (with_reducible refine Kd.C_drewN ?_ _) | (with_reducible refine Kd.C_drew ?_))); (case side10 => exact HC0_14.out); rintro e w41 ⟨v456, rfl, ho0, hb⟩; have n0_ := Sd.mk (Kd.R_lower ho0 (below_size bel_)); have n1_ := Sd.mk (blk_below (g := gb451) blk_ hb); have n2_ := Sd.mk (below_step bel_ hb); clear BK451; clear HB; have HO457 := n0_; have BK451 := n1_; have HB := n2_; clear n0_ n1_ n2_; (try clear hb); (try clear hb2); (try clear hk); (try clear hi); (try clear ho0))))
    (try simp only [Act.put, List.setIfInBounds_toArray, List.set_cons_zero, List.set_cons_succ])
    go_cut [7] (fun v7 wc => ∃ (kq : Nat) (x7_36 : Int), v7 = .int .i64 x7_36 ∧ Sd (l18BeatSettles.j2 kq t454 t455 x7_36 a0_0 a0_1 a0_2 a0_3 a0_4 a0_5 a0_6 a0_7 a0_8 a0_9 l0_10 l0_11 l0_12 l0_13 l0_14 = some r) ∧ Sd (kq ≤ kj2) ∧ Sd (Kd.R Kd.string 9 wc w.heap.size (fun _ => True) v456 t455) ∧ Sd (wc.heap[gb451]? = some (.cells #[.int .i64 a0_0, .int .i64 a0_1, .int .i64 a0_2, .int .i64 a0_3, .int .i64 a0_4, .int .i64 a0_5, .int .i64 a0_6, .int .i64 a0_7, .int .i64 a0_8, .int .i64 a0_9, (.slice A0_10 l0_10.length c0_10), (.slice A0_11 l0_11.length c0_11), (.slice A0_12 l0_12.length c0_12), (.slice A0_13 l0_13.length c0_13), (.slice A0_14 l0_14.length c0_14)] 80 (0, 0))) ∧ Sd (Below w.heap.size w wc))
    case first =>
     have H := HC37.out
     clear HC37
     have H' := Sd.mk H
     clear H
     go_wp2
     repeat (go_quiet (fail); try go_wp2)
     go_loopg [7] kj2 (fun kq v7 w' => ∃ (x7_2 : Int), v7 = .int .i64 x7_2 ∧ Sd (l18BeatSettles.l0 kq t454 t455 x7_2 a0_0 a0_1 a0_2 a0_3 a0_4 a0_5 a0_6 a0_7 a0_8 a0_9 l0_10 l0_11 l0_12 l0_13 l0_14 = some r) ∧ Sd (kq ≤ kj2) ∧ Sd (Kd.R Kd.string 9 w' w.heap.size (fun _ => True) v456 t455) ∧ Sd (w'.heap[gb451]? = some (.cells #[.int .i64 a0_0, .int .i64 a0_1, .int .i64 a0_2, .int .i64 a0_3, .int .i64 a0_4, .int .i64 a0_5, .int .i64 a0_6, .int .i64 a0_7, .int .i64 a0_8, .int .i64 a0_9, (.slice A0_10 l0_10.length c0_10), (.slice A0_11 l0_11.length c0_11), (.slice A0_12 l0_12.length c0_12), (.slice A0_13 l0_13.length c0_13), (.slice A0_14 l0_14.length c0_14)] 80 (0, 0))) ∧ Sd (Below w.heap.size w w'))
     case atStart => exact ⟨(0), (by first | rfl | (simp; done) | (simp [*]; done)), H', ⟨Nat.le_refl _⟩, ⟨by (with_reducible repeat (first | apply Kd.R_alloc | apply Kd.R_drewN | apply Kd.R_drew)); exact HO457.out⟩, ⟨blk_⟩, ⟨bel_⟩⟩
     case round =>
      clear H'
      try clear c1
      try clear p2
      try clear c3
      try clear c6
      try clear c6b0
      try clear c6b1
      try clear p6
      try clear c7
      try clear c7b0
      try clear c7b1
      try clear c8
      try clear c8b0
      try clear c8b1
      try clear c9
      try clear c9b0
      try clear c13
      try clear c13b0
      try clear c13b1
      try clear c14
      try clear c17
      try clear c17b0
      try clear c32
      try clear z10_0 z10_1 z10_10 z10_11 z10_12 z10_13 z10_14 z10_2 z10_3 z10_4 z10_5 z10_6 z10_7 z10_8 z10_9
      try clear z12_0 z12_1 z12_10 z12_11 z12_12 z12_13 z12_14 z12_2 z12_3 z12_4 z12_5 z12_6 z12_7 z12_8 z12_9
      try clear z14_0 z14_1 z14_10 z14_11 z14_12 z14_13 z14_14 z14_2 z14_3 z14_4 z14_5 z14_6 z14_7 z14_8 z14_9
      try clear z16_0 z16_1 z16_10 z16_11 z16_12 z16_13 z16_14 z16_2 z16_3 z16_4 z16_5 z16_6 z16_7 z16_8 z16_9
      try clear z18_0 z18_1 z18_10 z18_11 z18_12 z18_13 z18_14 z18_2 z18_3 z18_4 z18_5 z18_6 z18_7 z18_8 z18_9
      try clear z20_0 z20_1 z20_10 z20_11 z20_12 z20_13 z20_14 z20_2 z20_3 z20_4 z20_5 z20_6 z20_7 z20_8 z20_9
      try clear z21_0 z21_1 z21_10 z21_11 z21_12 z21_13 z21_14 z21_2 z21_3 z21_4 z21_5 z21_6 z21_7 z21_8 z21_9
      try clear z23_0 z23_1 z23_10 z23_11 z23_12 z23_13 z23_14 z23_2 z23_3 z23_4 z23_5 z23_6 z23_7 z23_8 z23_9
      try clear z24_0 z24_1 z24_10 z24_11 z24_12 z24_13 z24_14 z24_2 z24_3 z24_4 z24_5 z24_6 z24_7 z24_8 z24_9
      try clear z26_0 z26_1 z26_10 z26_11 z26_12 z26_13 z26_14 z26_2 z26_3 z26_4 z26_5 z26_6 z26_7 z26_8 z26_9
      try clear z27_0 z27_1 z27_10 z27_11 z27_12 z27_13 z27_14 z27_2 z27_3 z27_4 z27_5 z27_6 z27_7 z27_8 z27_9
      try clear z29_0 z29_1 z29_10 z29_11 z29_12 z29_13 z29_14 z29_2 z29_3 z29_4 z29_5 z29_6 z29_7 z29_8 z29_9
      try clear z30_0 z30_1 z30_10 z30_11 z30_12 z30_13 z30_14 z30_2 z30_3 z30_4 z30_5 z30_6 z30_7 z30_8 z30_9
      try clear z38_0 z38_1 z38_10 z38_11 z38_12 z38_13 z38_14 z38_2 z38_3 z38_4 z38_5 z38_6 z38_7 z38_8 z38_9
      try clear z40_0 z40_1 z40_10 z40_11 z40_12 z40_13 z40_14 z40_2 z40_3 z40_4 z40_5 z40_6 z40_7 z40_8 z40_9
      try clear j10_0 j10_1 j10_10 j10_11 j10_12 j10_13 j10_14 j10_2 j10_3 j10_4 j10_5 j10_6 j10_7 j10_8 j10_9
      try clear j12_0 j12_1 j12_10 j12_11 j12_12 j12_13 j12_14 j12_2 j12_3 j12_4 j12_5 j12_6 j12_7 j12_8 j12_9
      try clear j14_0 j14_1 j14_10 j14_11 j14_12 j14_13 j14_14 j14_2 j14_3 j14_4 j14_5 j14_6 j14_7 j14_8 j14_9
      try clear j16_0 j16_1 j16_10 j16_11 j16_12 j16_13 j16_14 j16_2 j16_3 j16_4 j16_5 j16_6 j16_7 j16_8 j16_9
      try clear j18_0 j18_1 j18_10 j18_11 j18_12 j18_13 j18_14 j18_2 j18_3 j18_4 j18_5 j18_6 j18_7 j18_8 j18_9
      try clear j20_0 j20_1 j20_10 j20_11 j20_12 j20_13 j20_14 j20_2 j20_3 j20_4 j20_5 j20_6 j20_7 j20_8 j20_9
      try clear j21_0 j21_1 j21_10 j21_11 j21_12 j21_13 j21_14 j21_2 j21_3 j21_4 j21_5 j21_6 j21_7 j21_8 j21_9
      try clear j23_0 j23_1 j23_10 j23_11 j23_12 j23_13 j23_14 j23_2 j23_3 j23_4 j23_5 j23_6 j23_7 j23_8 j23_9
      try clear j24_0 j24_1 j24_10 j24_11 j24_12 j24_13 j24_14 j24_2 j24_3 j24_4 j24_5 j24_6 j24_7 j24_8 j24_9
      try clear j26_0 j26_1 j26_10 j26_11 j26_12 j26_13 j26_14 j26_2 j26_3 j26_4 j26_5 j26_6 j26_7 j26_8 j26_9
      try clear j27_0 j27_1 j27_10 j27_11 j27_12 j27_13 j27_14 j27_2 j27_3 j27_4 j27_5 j27_6 j27_7 j27_8 j27_9
      try clear j29_0 j29_1 j29_10 j29_11 j29_12 j29_13 j29_14 j29_2 j29_3 j29_4 j29_5 j29_6 j29_7 j29_8 j29_9
      try clear j30_0 j30_1 j30_10 j30_11 j30_12 j30_13 j30_14 j30_2 j30_3 j30_4 j30_5 j30_6 j30_7 j30_8 j30_9
      try clear j38_0 j38_1 j38_10 j38_11 j38_12 j38_13 j38_14 j38_2 j38_3 j38_4 j38_5 j38_6 j38_7 j38_8 j38_9
      try clear j40_0 j40_1 j40_10 j40_11 j40_12 j40_13 j40_14 j40_2 j40_3 j40_4 j40_5 j40_6 j40_7 j40_8 j40_9
      try clear p2
      obtain ⟨x7_2, rfl, HA, HK2, HO_6, BK451, HB⟩ := hrel
      cases gk with
      | zero => exact absurd HA.out (by simp [l18BeatSettles.l0])
      | succ k2 =>
       have H := HA.out
       clear HA
       simp only [l18BeatSettles.l0] at H
       by_cases c42 : x7_2 < a0_0
       ·
        rw [if_pos c42] at H
        have c42b0 : decide (x7_2 < a0_0) = true := decide_eq_true c42
        clear c42
        (first | rw [c42b0] | (simp only [i64_w, i32_w]; rw [c42b0]) | skip)
        (try rw [c42b1])
        replace H := Option.bind_eq_some_iff.mp H
        obtain ⟨t458, A430, H⟩ := H
        replace H : (if t458 = true then (l18BeatSettles.l0 k2 t454 t455 (wrap64 (x7_2 + 1)) a0_0 a0_1 a0_2 a0_3 a0_4 a0_5 a0_6 a0_7 a0_8 a0_9 l0_10 l0_11 l0_12 l0_13 l0_14) else (l18BeatSettles.j2 k2 t454 t455 x7_2 a0_0 a0_1 a0_2 a0_3 a0_4 a0_5 a0_6 a0_7 a0_8 a0_9 l0_10 l0_11 l0_12 l0_13 l0_14)) = some r := H
        have A43 := Sd.mk A430
        clear A430
        by_cases c44 : t458 = true
        ·
         subst c44
         have H1 : (l18BeatSettles.l0 k2 t454 t455 (wrap64 (x7_2 + 1)) a0_0 a0_1 a0_2 a0_3 a0_4 a0_5 a0_6 a0_7 a0_8 a0_9 l0_10 l0_11 l0_12 l0_13 l0_14) = some r := by rw [if_pos rfl] at H; exact H
         clear H
         have H := H1
         clear H1
         have H' := Sd.mk H
         clear H
         obtain ⟨z45_0, z45_1, z45_2, z45_3, z45_4, z45_5, z45_6, z45_7, z45_8, z45_9, z45_10, z45_11, z45_12, z45_13, z45_14, j45_0, j45_1, j45_2, j45_3, j45_4, j45_5, j45_6, j45_7, j45_8, j45_9, j45_10, j45_11, j45_12, j45_13, j45_14⟩ := cells15 BK451.out
         go_wp2_with (first | (go_at_call 24; (with_reducible refine (r14In.calls k2 _ _ l0_13 x7_2 true _ ?side1 ?side2 A43.out).mono ?_); (case side1 => repeat (first | exact (Kd.C_below HR0_13.out HB.out) | (with_reducible refine Kd.C_alloc ?_ _) | (with_reducible refine Kd.C_drewN ?_ _) | (with_reducible refine Kd.C_drew ?_))); (case side2 => exact HC0_13.out); rintro e w' ⟨rfl, ⟨nd, rfl⟩⟩; (try first | exact ⟨rfl, _, World.drewN_drewN _ _ _⟩ | exact ⟨rfl, _, Eq.trans (World.drewN_drewN _ _ _) (congrArg (World.drewN _) (Nat.add_assoc _ _ _))⟩)))
         repeat (go_quiet (first | (go_at_call 24; (with_reducible refine (r14In.calls k2 _ _ l0_13 x7_2 true _ ?side1 ?side2 A43.out).mono ?_); (case side1 => repeat (first | exact (Kd.C_below HR0_13.out HB.out) | (with_reducible refine Kd.C_alloc ?_ _) | (with_reducible refine Kd.C_drewN ?_ _) | (with_reducible refine Kd.C_drew ?_))); (case side2 => exact HC0_13.out); rintro e w' ⟨rfl, ⟨nd, rfl⟩⟩; (try first | exact ⟨rfl, _, World.drewN_drewN _ _ _⟩ | exact ⟨rfl, _, Eq.trans (World.drewN_drewN _ _ _) (congrArg (World.drewN _) (Nat.add_assoc _ _ _))⟩))); try go_wp2_with (first | (go_at_call 24; (with_reducible refine (r14In.calls k2 _ _ l0_13 x7_2 true _ ?side1 ?side2 A43.out).mono ?_); (case side1 => repeat (first | exact (Kd.C_below HR0_13.out HB.out) | (with_reducible refine Kd.C_alloc ?_ _) | (with_reducible refine Kd.C_drewN ?_ _) | (with_reducible refine Kd.C_drew ?_))); (case side2 => exact HC0_13.out); rintro e w' ⟨rfl, ⟨nd, rfl⟩⟩; (try first | exact ⟨rfl, _, World.drewN_drewN _ _ _⟩ | exact ⟨rfl, _, Eq.trans (World.drewN_drewN _ _ _) (congrArg (World.drewN _) (Nat.add_assoc _ _ _))⟩))))
         go_roundg k2
         case measure => have := HJ2.out; have := HK2.out; omega
         case rel => exact ⟨(wrap64 (x7_2 + 1)), (by first | rfl | (simp; done) | (simp [*]; done)), H', ⟨by have := HJ2.out; have := HK2.out; omega⟩, ⟨by (with_reducible repeat (first | apply Kd.R_alloc | apply Kd.R_drewN | apply Kd.R_drew)); exact HO_6.out⟩, ⟨blk_⟩, ⟨bel_⟩⟩
        ·
         replace c44 := Bool.eq_false_iff.mpr c44
         subst c44
         have H1 : (l18BeatSettles.j2 k2 t454 t455 x7_2 a0_0 a0_1 a0_2 a0_3 a0_4 a0_5 a0_6 a0_7 a0_8 a0_9 l0_10 l0_11 l0_12 l0_13 l0_14) = some r := by rw [if_neg (show ¬ (false = true) by decide)] at H; exact H
         clear H
         have H := H1
         clear H1
         have H' := Sd.mk H
         clear H
         obtain ⟨z46_0, z46_1, z46_2, z46_3, z46_4, z46_5, z46_6, z46_7, z46_8, z46_9, z46_10, z46_11, z46_12, z46_13, z46_14, j46_0, j46_1, j46_2, j46_3, j46_4, j46_5, j46_6, j46_7, j46_8, j46_9, j46_10, j46_11, j46_12, j46_13, j46_14⟩ := cells15 BK451.out
         go_wp2_with (first | (go_at_call 24; (with_reducible refine (r14In.calls k2 _ _ l0_13 x7_2 false _ ?side1 ?side2 A43.out).mono ?_); (case side1 => repeat (first | exact (Kd.C_below HR0_13.out HB.out) | (with_reducible refine Kd.C_alloc ?_ _) | (with_reducible refine Kd.C_drewN ?_ _) | (with_reducible refine Kd.C_drew ?_))); (case side2 => exact HC0_13.out); rintro e w' ⟨rfl, ⟨nd, rfl⟩⟩; (try first | exact ⟨rfl, _, World.drewN_drewN _ _ _⟩ | exact ⟨rfl, _, Eq.trans (World.drewN_drewN _ _ _) (congrArg (World.drewN _) (Nat.add_assoc _ _ _))⟩)))
         repeat (go_quiet (first | (go_at_call 24; (with_reducible refine (r14In.calls k2 _ _ l0_13 x7_2 false _ ?side1 ?side2 A43.out).mono ?_); (case side1 => repeat (first | exact (Kd.C_below HR0_13.out HB.out) | (with_reducible refine Kd.C_alloc ?_ _) | (with_reducible refine Kd.C_drewN ?_ _) | (with_reducible refine Kd.C_drew ?_))); (case side2 => exact HC0_13.out); rintro e w' ⟨rfl, ⟨nd, rfl⟩⟩; (try first | exact ⟨rfl, _, World.drewN_drewN _ _ _⟩ | exact ⟨rfl, _, Eq.trans (World.drewN_drewN _ _ _) (congrArg (World.drewN _) (Nat.add_assoc _ _ _))⟩))); try go_wp2_with (first | (go_at_call 24; (with_reducible refine (r14In.calls k2 _ _ l0_13 x7_2 false _ ?side1 ?side2 A43.out).mono ?_); (case side1 => repeat (first | exact (Kd.C_below HR0_13.out HB.out) | (with_reducible refine Kd.C_alloc ?_ _) | (with_reducible refine Kd.C_drewN ?_ _) | (with_reducible refine Kd.C_drew ?_))); (case side2 => exact HC0_13.out); rintro e w' ⟨rfl, ⟨nd, rfl⟩⟩; (try first | exact ⟨rfl, _, World.drewN_drewN _ _ _⟩ | exact ⟨rfl, _, Eq.trans (World.drewN_drewN _ _ _) (congrArg (World.drewN _) (Nat.add_assoc _ _ _))⟩))))
         go_meet
         case rel => exact ⟨_, (x7_2), (by first | rfl | (simp; done) | (simp [*]; done)), H', ⟨by have := HJ2.out; have := HK2.out; first | omega | exact Nat.le_refl _⟩, ⟨by (with_reducible repeat (first | apply Kd.R_alloc | apply Kd.R_drewN | apply Kd.R_drew)); exact HO_6.out⟩, ⟨blk_⟩, ⟨bel_⟩⟩
       ·
        rw [if_neg c42] at H
        have c42b0 : decide (x7_2 < a0_0) = false := decide_eq_false c42
        clear c42
        (first | rw [c42b0] | (simp only [i64_w, i32_w]; rw [c42b0]) | skip)
        (try rw [c42b1])
        have H' := Sd.mk H
        clear H
        obtain ⟨z47_0, z47_1, z47_2, z47_3, z47_4, z47_5, z47_6, z47_7, z47_8, z47_9, z47_10, z47_11, z47_12, z47_13, z47_14, j47_0, j47_1, j47_2, j47_3, j47_4, j47_5, j47_6, j47_7, j47_8, j47_9, j47_10, j47_11, j47_12, j47_13, j47_14⟩ := cells15 BK451.out
        go_wp2
        repeat (go_quiet (fail); try go_wp2)
        go_meet
        case rel => exact ⟨_, (x7_2), (by first | rfl | (simp; done) | (simp [*]; done)), H', ⟨by have := HJ2.out; have := HK2.out; first | omega | exact Nat.le_refl _⟩, ⟨by (with_reducible repeat (first | apply Kd.R_alloc | apply Kd.R_drewN | apply Kd.R_drew)); exact HO_6.out⟩, ⟨blk_⟩, ⟨bel_⟩⟩
    case rest =>
     clear HC37
     try clear c1
     try clear p2
     try clear c3
     try clear c4
     try clear p6
     try clear c13
     try clear c13b1
     try clear c14
     try clear c17
     try clear c17b0
     try clear c32
     try clear c42
     try clear c42b0
     try clear c44
     try clear z10_0 z10_1 z10_10 z10_11 z10_12 z10_13 z10_14 z10_2 z10_3 z10_4 z10_5 z10_6 z10_7 z10_8 z10_9
     try clear z12_0 z12_1 z12_10 z12_11 z12_12 z12_13 z12_14 z12_2 z12_3 z12_4 z12_5 z12_6 z12_7 z12_8 z12_9
     try clear z14_0 z14_1 z14_10 z14_11 z14_12 z14_13 z14_14 z14_2 z14_3 z14_4 z14_5 z14_6 z14_7 z14_8 z14_9
     try clear z16_0 z16_1 z16_10 z16_11 z16_12 z16_13 z16_14 z16_2 z16_3 z16_4 z16_5 z16_6 z16_7 z16_8 z16_9
     try clear z18_0 z18_1 z18_10 z18_11 z18_12 z18_13 z18_14 z18_2 z18_3 z18_4 z18_5 z18_6 z18_7 z18_8 z18_9
     try clear z20_0 z20_1 z20_10 z20_11 z20_12 z20_13 z20_14 z20_2 z20_3 z20_4 z20_5 z20_6 z20_7 z20_8 z20_9
     try clear z21_0 z21_1 z21_10 z21_11 z21_12 z21_13 z21_14 z21_2 z21_3 z21_4 z21_5 z21_6 z21_7 z21_8 z21_9
     try clear z23_0 z23_1 z23_10 z23_11 z23_12 z23_13 z23_14 z23_2 z23_3 z23_4 z23_5 z23_6 z23_7 z23_8 z23_9
     try clear z24_0 z24_1 z24_10 z24_11 z24_12 z24_13 z24_14 z24_2 z24_3 z24_4 z24_5 z24_6 z24_7 z24_8 z24_9
     try clear z26_0 z26_1 z26_10 z26_11 z26_12 z26_13 z26_14 z26_2 z26_3 z26_4 z26_5 z26_6 z26_7 z26_8 z26_9
     try clear z27_0 z27_1 z27_10 z27_11 z27_12 z27_13 z27_14 z27_2 z27_3 z27_4 z27_5 z27_6 z27_7 z27_8 z27_9
     try clear z29_0 z29_1 z29_10 z29_11 z29_12 z29_13 z29_14 z29_2 z29_3 z29_4 z29_5 z29_6 z29_7 z29_8 z29_9
     try clear z30_0 z30_1 z30_10 z30_11 z30_12 z30_13 z30_14 z30_2 z30_3 z30_4 z30_5 z30_6 z30_7 z30_8 z30_9
     try clear z38_0 z38_1 z38_10 z38_11 z38_12 z38_13 z38_14 z38_2 z38_3 z38_4 z38_5 z38_6 z38_7 z38_8 z38_9
     try clear z40_0 z40_1 z40_10 z40_11 z40_12 z40_13 z40_14 z40_2 z40_3 z40_4 z40_5 z40_6 z40_7 z40_8 z40_9
     try clear z45_0 z45_1 z45_10 z45_11 z45_12 z45_13 z45_14 z45_2 z45_3 z45_4 z45_5 z45_6 z45_7 z45_8 z45_9
     try clear z46_0 z46_1 z46_10 z46_11 z46_12 z46_13 z46_14 z46_2 z46_3 z46_4 z46_5 z46_6 z46_7 z46_8 z46_9
     try clear z47_0 z47_1 z47_10 z47_11 z47_12 z47_13 z47_14 z47_2 z47_3 z47_4 z47_5 z47_6 z47_7 z47_8 z47_9
     try clear j10_0 j10_1 j10_10 j10_11 j10_12 j10_13 j10_14 j10_2 j10_3 j10_4 j10_5 j10_6 j10_7 j10_8 j10_9
     try clear j12_0 j12_1 j12_10 j12_11 j12_12 j12_13 j12_14 j12_2 j12_3 j12_4 j12_5 j12_6 j12_7 j12_8 j12_9
     try clear j14_0 j14_1 j14_10 j14_11 j14_12 j14_13 j14_14 j14_2 j14_3 j14_4 j14_5 j14_6 j14_7 j14_8 j14_9
     try clear j16_0 j16_1 j16_10 j16_11 j16_12 j16_13 j16_14 j16_2 j16_3 j16_4 j16_5 j16_6 j16_7 j16_8 j16_9
     try clear j18_0 j18_1 j18_10 j18_11 j18_12 j18_13 j18_14 j18_2 j18_3 j18_4 j18_5 j18_6 j18_7 j18_8 j18_9
     try clear j20_0 j20_1 j20_10 j20_11 j20_12 j20_13 j20_14 j20_2 j20_3 j20_4 j20_5 j20_6 j20_7 j20_8 j20_9
     try clear j21_0 j21_1 j21_10 j21_11 j21_12 j21_13 j21_14 j21_2 j21_3 j21_4 j21_5 j21_6 j21_7 j21_8 j21_9
     try clear j23_0 j23_1 j23_10 j23_11 j23_12 j23_13 j23_14 j23_2 j23_3 j23_4 j23_5 j23_6 j23_7 j23_8 j23_9
     try clear j24_0 j24_1 j24_10 j24_11 j24_12 j24_13 j24_14 j24_2 j24_3 j24_4 j24_5 j24_6 j24_7 j24_8 j24_9
     try clear j26_0 j26_1 j26_10 j26_11 j26_12 j26_13 j26_14 j26_2 j26_3 j26_4 j26_5 j26_6 j26_7 j26_8 j26_9
     try clear j27_0 j27_1 j27_10 j27_11 j27_12 j27_13 j27_14 j27_2 j27_3 j27_4 j27_5 j27_6 j27_7 j27_8 j27_9
     try clear j29_0 j29_1 j29_10 j29_11 j29_12 j29_13 j29_14 j29_2 j29_3 j29_4 j29_5 j29_6 j29_7 j29_8 j29_9
     try clear j30_0 j30_1 j30_10 j30_11 j30_12 j30_13 j30_14 j30_2 j30_3 j30_4 j30_5 j30_6 j30_7 j30_8 j30_9
     try clear j38_0 j38_1 j38_10 j38_11 j38_12 j38_13 j38_14 j38_2 j38_3 j38_4 j38_5 j38_6 j38_7 j38_8 j38_9
     try clear j40_0 j40_1 j40_10 j40_11 j40_12 j40_13 j40_14 j40_2 j40_3 j40_4 j40_5 j40_6 j40_7 j40_8 j40_9
     try clear j45_0 j45_1 j45_10 j45_11 j45_12 j45_13 j45_14 j45_2 j45_3 j45_4 j45_5 j45_6 j45_7 j45_8 j45_9
     try clear j46_0 j46_1 j46_10 j46_11 j46_12 j46_13 j46_14 j46_2 j46_3 j46_4 j46_5 j46_6 j46_7 j46_8 j46_9
     try clear j47_0 j47_1 j47_10 j47_11 j47_12 j47_13 j47_14 j47_2 j47_3 j47_4 j47_5 j47_6 j47_7 j47_8 j47_9
     try clear p2
     obtain ⟨kq, x7_36, rfl, HA, HJ36, HO_6, BK451, HB⟩ := hcut
     cases kq with
     | zero => exact absurd HA.out (by simp [l18BeatSettles.j2])
     | succ kj36 =>
      have H := HA.out
      clear HA
      simp only [l18BeatSettles.j2] at H
      have H' := Sd.mk H
      clear H
      go_wp2
      repeat (go_quiet (fail); try go_wp2)
      go_loopg [8, 9] kj36 (fun kq v8 v9 w' => ∃ (x8_3 : ByteArray) (x9_3 : Int), v8 = .string x8_3 ∧ v9 = .int .i64 x9_3 ∧ Sd (l18BeatSettles.l1 kq t454 t455 x7_36 x8_3 x9_3 a0_0 a0_1 a0_2 a0_3 a0_4 a0_5 a0_6 a0_7 a0_8 a0_9 l0_10 l0_11 l0_12 l0_13 l0_14 = some r) ∧ Sd (kq ≤ kj36) ∧ Sd (Kd.R Kd.string 9 w' w.heap.size (fun _ => True) v456 t455) ∧ Sd (w'.heap[gb451]? = some (.cells #[.int .i64 a0_0, .int .i64 a0_1, .int .i64 a0_2, .int .i64 a0_3, .int .i64 a0_4, .int .i64 a0_5, .int .i64 a0_6, .int .i64 a0_7, .int .i64 a0_8, .int .i64 a0_9, (.slice A0_10 l0_10.length c0_10), (.slice A0_11 l0_11.length c0_11), (.slice A0_12 l0_12.length c0_12), (.slice A0_13 l0_13.length c0_13), (.slice A0_14 l0_14.length c0_14)] 80 (0, 0))) ∧ Sd (Below w.heap.size w w'))
      case atStart => exact ⟨((⟨#[]⟩ : ByteArray)), (0), (by first | rfl | (simp; done) | (simp [*]; done)), (by first | rfl | (simp; done) | (simp [*]; done)), H', ⟨Nat.le_refl _⟩, ⟨by (with_reducible repeat (first | apply Kd.R_alloc | apply Kd.R_drewN | apply Kd.R_drew)); exact HO_6.out⟩, ⟨blk_⟩, ⟨bel_⟩⟩
      case round =>
       clear H'
       try clear c1
       try clear p2
       try clear c3
       try clear c4
       try clear p6
       try clear c13
       try clear c13b1
       try clear c14
       try clear c17
       try clear c17b0
       try clear c32
       try clear c42
       try clear c42b0
       try clear c44
       try clear z10_0 z10_1 z10_10 z10_11 z10_12 z10_13 z10_14 z10_2 z10_3 z10_4 z10_5 z10_6 z10_7 z10_8 z10_9
       try clear z12_0 z12_1 z12_10 z12_11 z12_12 z12_13 z12_14 z12_2 z12_3 z12_4 z12_5 z12_6 z12_7 z12_8 z12_9
       try clear z14_0 z14_1 z14_10 z14_11 z14_12 z14_13 z14_14 z14_2 z14_3 z14_4 z14_5 z14_6 z14_7 z14_8 z14_9
       try clear z16_0 z16_1 z16_10 z16_11 z16_12 z16_13 z16_14 z16_2 z16_3 z16_4 z16_5 z16_6 z16_7 z16_8 z16_9
       try clear z18_0 z18_1 z18_10 z18_11 z18_12 z18_13 z18_14 z18_2 z18_3 z18_4 z18_5 z18_6 z18_7 z18_8 z18_9
       try clear z20_0 z20_1 z20_10 z20_11 z20_12 z20_13 z20_14 z20_2 z20_3 z20_4 z20_5 z20_6 z20_7 z20_8 z20_9
       try clear z21_0 z21_1 z21_10 z21_11 z21_12 z21_13 z21_14 z21_2 z21_3 z21_4 z21_5 z21_6 z21_7 z21_8 z21_9
       try clear z23_0 z23_1 z23_10 z23_11 z23_12 z23_13 z23_14 z23_2 z23_3 z23_4 z23_5 z23_6 z23_7 z23_8 z23_9
       try clear z24_0 z24_1 z24_10 z24_11 z24_12 z24_13 z24_14 z24_2 z24_3 z24_4 z24_5 z24_6 z24_7 z24_8 z24_9
       try clear z26_0 z26_1 z26_10 z26_11 z26_12 z26_13 z26_14 z26_2 z26_3 z26_4 z26_5 z26_6 z26_7 z26_8 z26_9
       try clear z27_0 z27_1 z27_10 z27_11 z27_12 z27_13 z27_14 z27_2 z27_3 z27_4 z27_5 z27_6 z27_7 z27_8 z27_9
       try clear z29_0 z29_1 z29_10 z29_11 z29_12 z29_13 z29_14 z29_2 z29_3 z29_4 z29_5 z29_6 z29_7 z29_8 z29_9
       try clear z30_0 z30_1 z30_10 z30_11 z30_12 z30_13 z30_14 z30_2 z30_3 z30_4 z30_5 z30_6 z30_7 z30_8 z30_9
       try clear z38_0 z38_1 z38_10 z38_11 z38_12 z38_13 z38_14 z38_2 z38_3 z38_4 z38_5 z38_6 z38_7 z38_8 z38_9
       try clear z40_0 z40_1 z40_10 z40_11 z40_12 z40_13 z40_14 z40_2 z40_3 z40_4 z40_5 z40_6 z40_7 z40_8 z40_9
       try clear z45_0 z45_1 z45_10 z45_11 z45_12 z45_13 z45_14 z45_2 z45_3 z45_4 z45_5 z45_6 z45_7 z45_8 z45_9
       try clear z46_0 z46_1 z46_10 z46_11 z46_12 z46_13 z46_14 z46_2 z46_3 z46_4 z46_5 z46_6 z46_7 z46_8 z46_9
       try clear z47_0 z47_1 z47_10 z47_11 z47_12 z47_13 z47_14 z47_2 z47_3 z47_4 z47_5 z47_6 z47_7 z47_8 z47_9
       try clear j10_0 j10_1 j10_10 j10_11 j10_12 j10_13 j10_14 j10_2 j10_3 j10_4 j10_5 j10_6 j10_7 j10_8 j10_9
       try clear j12_0 j12_1 j12_10 j12_11 j12_12 j12_13 j12_14 j12_2 j12_3 j12_4 j12_5 j12_6 j12_7 j12_8 j12_9
       try clear j14_0 j14_1 j14_10 j14_11 j14_12 j14_13 j14_14 j14_2 j14_3 j14_4 j14_5 j14_6 j14_7 j14_8 j14_9
       try clear j16_0 j16_1 j16_10 j16_11 j16_12 j16_13 j16_14 j16_2 j16_3 j16_4 j16_5 j16_6 j16_7 j16_8 j16_9
       try clear j18_0 j18_1 j18_10 j18_11 j18_12 j18_13 j18_14 j18_2 j18_3 j18_4 j18_5 j18_6 j18_7 j18_8 j18_9
       try clear j20_0 j20_1 j20_10 j20_11 j20_12 j20_13 j20_14 j20_2 j20_3 j20_4 j20_5 j20_6 j20_7 j20_8 j20_9
       try clear j21_0 j21_1 j21_10 j21_11 j21_12 j21_13 j21_14 j21_2 j21_3 j21_4 j21_5 j21_6 j21_7 j21_8 j21_9
       try clear j23_0 j23_1 j23_10 j23_11 j23_12 j23_13 j23_14 j23_2 j23_3 j23_4 j23_5 j23_6 j23_7 j23_8 j23_9
       try clear j24_0 j24_1 j24_10 j24_11 j24_12 j24_13 j24_14 j24_2 j24_3 j24_4 j24_5 j24_6 j24_7 j24_8 j24_9
       try clear j26_0 j26_1 j26_10 j26_11 j26_12 j26_13 j26_14 j26_2 j26_3 j26_4 j26_5 j26_6 j26_7 j26_8 j26_9
       try clear j27_0 j27_1 j27_10 j27_11 j27_12 j27_13 j27_14 j27_2 j27_3 j27_4 j27_5 j27_6 j27_7 j27_8 j27_9
       try clear j29_0 j29_1 j29_10 j29_11 j29_12 j29_13 j29_14 j29_2 j29_3 j29_4 j29_5 j29_6 j29_7 j29_8 j29_9
       try clear j30_0 j30_1 j30_10 j30_11 j30_12 j30_13 j30_14 j30_2 j30_3 j30_4 j30_5 j30_6 j30_7 j30_8 j30_9
       try clear j38_0 j38_1 j38_10 j38_11 j38_12 j38_13 j38_14 j38_2 j38_3 j38_4 j38_5 j38_6 j38_7 j38_8 j38_9
       try clear j40_0 j40_1 j40_10 j40_11 j40_12 j40_13 j40_14 j40_2 j40_3 j40_4 j40_5 j40_6 j40_7 j40_8 j40_9
       try clear j45_0 j45_1 j45_10 j45_11 j45_12 j45_13 j45_14 j45_2 j45_3 j45_4 j45_5 j45_6 j45_7 j45_8 j45_9
       try clear j46_0 j46_1 j46_10 j46_11 j46_12 j46_13 j46_14 j46_2 j46_3 j46_4 j46_5 j46_6 j46_7 j46_8 j46_9
       try clear j47_0 j47_1 j47_10 j47_11 j47_12 j47_13 j47_14 j47_2 j47_3 j47_4 j47_5 j47_6 j47_7 j47_8 j47_9
       try clear p2
       try clear p6
       obtain ⟨x8_3, x9_3, rfl, rfl, HA, HK3, HO_6, BK451, HB⟩ := hrel
       cases gk with
       | zero => exact absurd HA.out (by simp [l18BeatSettles.l1])
       | succ k3 =>
        have H := HA.out
        clear HA
        simp only [l18BeatSettles.l1] at H
        by_cases c48 : x9_3 < (t455.length : Int)
        ·
         rw [if_pos c48] at H
         have c48b0 : decide (x9_3 < (t455.length : Int)) = true := decide_eq_true c48
         clear c48
         have H' := Sd.mk H
         clear H
         obtain ⟨Ao49, co49, eo49⟩ := Kd.R_slice HO_6.out
         subst eo49
         go_wp2
         repeat (go_quiet (fail); try go_wp2)
         go_loopg [10] k3 (fun kq v10 w' => ∃ (x10_4 : Int), v10 = .int .i64 x10_4 ∧ Sd (l18BeatSettles.l2 kq t454 t455 x7_36 x8_3 x9_3 x10_4 a0_0 a0_1 a0_2 a0_3 a0_4 a0_5 a0_6 a0_7 a0_8 a0_9 l0_10 l0_11 l0_12 l0_13 l0_14 = some r) ∧ Sd (kq ≤ k3) ∧ Sd (Kd.R Kd.string 9 w' w.heap.size (fun _ => True) (.slice Ao49 t455.length co49) t455) ∧ Sd (w'.heap[gb451]? = some (.cells #[.int .i64 a0_0, .int .i64 a0_1, .int .i64 a0_2, .int .i64 a0_3, .int .i64 a0_4, .int .i64 a0_5, .int .i64 a0_6, .int .i64 a0_7, .int .i64 a0_8, .int .i64 a0_9, (.slice A0_10 l0_10.length c0_10), (.slice A0_11 l0_11.length c0_11), (.slice A0_12 l0_12.length c0_12), (.slice A0_13 l0_13.length c0_13), (.slice A0_14 l0_14.length c0_14)] 80 (0, 0))) ∧ Sd (Below w.heap.size w w'))
         case atStart => exact ⟨(0), (by first | rfl | (simp; done) | (simp [*]; done)), H', ⟨Nat.le_refl _⟩, ⟨by (with_reducible repeat (first | apply Kd.R_alloc | apply Kd.R_drewN | apply Kd.R_drew)); exact HO_6.out⟩, ⟨blk_⟩, ⟨bel_⟩⟩
         case round =>
          clear H'
          try clear c1
          try clear p2
          try clear c3
          try clear c4
          try clear p6
          try clear c13
          try clear c13b1
          try clear c14
          try clear c17
          try clear c17b0
          try clear c32
          try clear c42
          try clear c42b0
          try clear c44
          try clear c48
          try clear c48b0
          try clear z10_0 z10_1 z10_10 z10_11 z10_12 z10_13 z10_14 z10_2 z10_3 z10_4 z10_5 z10_6 z10_7 z10_8 z10_9
          try clear z12_0 z12_1 z12_10 z12_11 z12_12 z12_13 z12_14 z12_2 z12_3 z12_4 z12_5 z12_6 z12_7 z12_8 z12_9
          try clear z14_0 z14_1 z14_10 z14_11 z14_12 z14_13 z14_14 z14_2 z14_3 z14_4 z14_5 z14_6 z14_7 z14_8 z14_9
          try clear z16_0 z16_1 z16_10 z16_11 z16_12 z16_13 z16_14 z16_2 z16_3 z16_4 z16_5 z16_6 z16_7 z16_8 z16_9
          try clear z18_0 z18_1 z18_10 z18_11 z18_12 z18_13 z18_14 z18_2 z18_3 z18_4 z18_5 z18_6 z18_7 z18_8 z18_9
          try clear z20_0 z20_1 z20_10 z20_11 z20_12 z20_13 z20_14 z20_2 z20_3 z20_4 z20_5 z20_6 z20_7 z20_8 z20_9
          try clear z21_0 z21_1 z21_10 z21_11 z21_12 z21_13 z21_14 z21_2 z21_3 z21_4 z21_5 z21_6 z21_7 z21_8 z21_9
          try clear z23_0 z23_1 z23_10 z23_11 z23_12 z23_13 z23_14 z23_2 z23_3 z23_4 z23_5 z23_6 z23_7 z23_8 z23_9
          try clear z24_0 z24_1 z24_10 z24_11 z24_12 z24_13 z24_14 z24_2 z24_3 z24_4 z24_5 z24_6 z24_7 z24_8 z24_9
          try clear z26_0 z26_1 z26_10 z26_11 z26_12 z26_13 z26_14 z26_2 z26_3 z26_4 z26_5 z26_6 z26_7 z26_8 z26_9
          try clear z27_0 z27_1 z27_10 z27_11 z27_12 z27_13 z27_14 z27_2 z27_3 z27_4 z27_5 z27_6 z27_7 z27_8 z27_9
          try clear z29_0 z29_1 z29_10 z29_11 z29_12 z29_13 z29_14 z29_2 z29_3 z29_4 z29_5 z29_6 z29_7 z29_8 z29_9
          try clear z30_0 z30_1 z30_10 z30_11 z30_12 z30_13 z30_14 z30_2 z30_3 z30_4 z30_5 z30_6 z30_7 z30_8 z30_9
          try clear z38_0 z38_1 z38_10 z38_11 z38_12 z38_13 z38_14 z38_2 z38_3 z38_4 z38_5 z38_6 z38_7 z38_8 z38_9
          try clear z40_0 z40_1 z40_10 z40_11 z40_12 z40_13 z40_14 z40_2 z40_3 z40_4 z40_5 z40_6 z40_7 z40_8 z40_9
          try clear z45_0 z45_1 z45_10 z45_11 z45_12 z45_13 z45_14 z45_2 z45_3 z45_4 z45_5 z45_6 z45_7 z45_8 z45_9
          try clear z46_0 z46_1 z46_10 z46_11 z46_12 z46_13 z46_14 z46_2 z46_3 z46_4 z46_5 z46_6 z46_7 z46_8 z46_9
          try clear z47_0 z47_1 z47_10 z47_11 z47_12 z47_13 z47_14 z47_2 z47_3 z47_4 z47_5 z47_6 z47_7 z47_8 z47_9
          try clear j10_0 j10_1 j10_10 j10_11 j10_12 j10_13 j10_14 j10_2 j10_3 j10_4 j10_5 j10_6 j10_7 j10_8 j10_9
          try clear j12_0 j12_1 j12_10 j12_11 j12_12 j12_13 j12_14 j12_2 j12_3 j12_4 j12_5 j12_6 j12_7 j12_8 j12_9
          try clear j14_0 j14_1 j14_10 j14_11 j14_12 j14_13 j14_14 j14_2 j14_3 j14_4 j14_5 j14_6 j14_7 j14_8 j14_9
          try clear j16_0 j16_1 j16_10 j16_11 j16_12 j16_13 j16_14 j16_2 j16_3 j16_4 j16_5 j16_6 j16_7 j16_8 j16_9
          try clear j18_0 j18_1 j18_10 j18_11 j18_12 j18_13 j18_14 j18_2 j18_3 j18_4 j18_5 j18_6 j18_7 j18_8 j18_9
          try clear j20_0 j20_1 j20_10 j20_11 j20_12 j20_13 j20_14 j20_2 j20_3 j20_4 j20_5 j20_6 j20_7 j20_8 j20_9
          try clear j21_0 j21_1 j21_10 j21_11 j21_12 j21_13 j21_14 j21_2 j21_3 j21_4 j21_5 j21_6 j21_7 j21_8 j21_9
          try clear j23_0 j23_1 j23_10 j23_11 j23_12 j23_13 j23_14 j23_2 j23_3 j23_4 j23_5 j23_6 j23_7 j23_8 j23_9
          try clear j24_0 j24_1 j24_10 j24_11 j24_12 j24_13 j24_14 j24_2 j24_3 j24_4 j24_5 j24_6 j24_7 j24_8 j24_9
          try clear j26_0 j26_1 j26_10 j26_11 j26_12 j26_13 j26_14 j26_2 j26_3 j26_4 j26_5 j26_6 j26_7 j26_8 j26_9
          try clear j27_0 j27_1 j27_10 j27_11 j27_12 j27_13 j27_14 j27_2 j27_3 j27_4 j27_5 j27_6 j27_7 j27_8 j27_9
          try clear j29_0 j29_1 j29_10 j29_11 j29_12 j29_13 j29_14 j29_2 j29_3 j29_4 j29_5 j29_6 j29_7 j29_8 j29_9
          try clear j30_0 j30_1 j30_10 j30_11 j30_12 j30_13 j30_14 j30_2 j30_3 j30_4 j30_5 j30_6 j30_7 j30_8 j30_9
          try clear j38_0 j38_1 j38_10 j38_11 j38_12 j38_13 j38_14 j38_2 j38_3 j38_4 j38_5 j38_6 j38_7 j38_8 j38_9
          try clear j40_0 j40_1 j40_10 j40_11 j40_12 j40_13 j40_14 j40_2 j40_3 j40_4 j40_5 j40_6 j40_7 j40_8 j40_9
          try clear j45_0 j45_1 j45_10 j45_11 j45_12 j45_13 j45_14 j45_2 j45_3 j45_4 j45_5 j45_6 j45_7 j45_8 j45_9
          try clear j46_0 j46_1 j46_10 j46_11 j46_12 j46_13 j46_14 j46_2 j46_3 j46_4 j46_5 j46_6 j46_7 j46_8 j46_9
          try clear j47_0 j47_1 j47_10 j47_11 j47_12 j47_13 j47_14 j47_2 j47_3 j47_4 j47_5 j47_6 j47_7 j47_8 j47_9
          try clear p2
          try clear p6
          obtain ⟨x10_4, rfl, HA, HK4, HO_6, BK451, HB⟩ := hrel
          cases gk with
          | zero => exact absurd HA.out (by simp [l18BeatSettles.l2])
          | succ k4 =>
           have H := HA.out
           clear HA
           simp only [l18BeatSettles.l2] at H
           by_cases c50 : x10_4 < a0_0
           ·
            rw [if_pos c50] at H
            have c50b0 : decide (x10_4 < a0_0) = true := decide_eq_true c50
            clear c50
            by_cases c51 : x9_3 ≥ t454
            ·
             rw [if_pos c51] at H
             have c51b0 : decide (t454 ≤ x9_3) = true := decide_eq_true c51
             clear c51
             replace H := Option.bind_eq_some_iff.mp H
             obtain ⟨t461, A520, H⟩ := H
             replace H : (if t461 = true then (l18BeatSettles.l2 k4 t454 t455 x7_36 x8_3 x9_3 (wrap64 (x10_4 + 1)) a0_0 a0_1 a0_2 a0_3 a0_4 a0_5 a0_6 a0_7 a0_8 a0_9 l0_10 l0_11 l0_12 l0_13 l0_14) else (if 0 ≤ x9_3 then (if x9_3 < (t455.length : Int) then (if 0 ≤ x10_4 then (if x10_4 < ((rdOf ByteArray.empty t455 x9_3).size : Int) then (if 0 ≤ x7_36 then (if x7_36 < ((rdOf ByteArray.empty t455 x9_3).size : Int) then (if (bt (rdOf ByteArray.empty t455 x9_3) x10_4) = (bt (rdOf ByteArray.empty t455 x9_3) x7_36) then (l18BeatSettles.l2 k4 t454 t455 x7_36 x8_3 x9_3 (wrap64 (x10_4 + 1)) a0_0 a0_1 a0_2 a0_3 a0_4 a0_5 a0_6 a0_7 a0_8 a0_9 l0_10 l0_11 l0_12 l0_13 l0_14) else (some false)) else (none)) else (none)) else (none)) else (none)) else (none)) else (none))) = some r := H
             have A52 := Sd.mk A520
             clear A520
             by_cases c53 : t461 = true
             ·
              subst c53
              have H1 : (l18BeatSettles.l2 k4 t454 t455 x7_36 x8_3 x9_3 (wrap64 (x10_4 + 1)) a0_0 a0_1 a0_2 a0_3 a0_4 a0_5 a0_6 a0_7 a0_8 a0_9 l0_10 l0_11 l0_12 l0_13 l0_14) = some r := by rw [if_pos rfl] at H; exact H
              clear H
              have H := H1
              clear H1
              have H' := Sd.mk H
              clear H
              obtain ⟨z54_0, z54_1, z54_2, z54_3, z54_4, z54_5, z54_6, z54_7, z54_8, z54_9, z54_10, z54_11, z54_12, z54_13, z54_14, j54_0, j54_1, j54_2, j54_3, j54_4, j54_5, j54_6, j54_7, j54_8, j54_9, j54_10, j54_11, j54_12, j54_13, j54_14⟩ := cells15 BK451.out
              go_wp2_with (first | (go_at_call 24; (with_reducible refine (r14In.calls k4 _ _ l0_13 x10_4 true _ ?side1 ?side2 A52.out).mono ?_); (case side1 => repeat (first | exact (Kd.C_below HR0_13.out HB.out) | (with_reducible refine Kd.C_alloc ?_ _) | (with_reducible refine Kd.C_drewN ?_ _) | (with_reducible refine Kd.C_drew ?_))); (case side2 => exact HC0_13.out); rintro e w' ⟨rfl, ⟨nd, rfl⟩⟩; (try first | exact ⟨rfl, _, World.drewN_drewN _ _ _⟩ | exact ⟨rfl, _, Eq.trans (World.drewN_drewN _ _ _) (congrArg (World.drewN _) (Nat.add_assoc _ _ _))⟩)))
              repeat (go_quiet (first | (go_at_call 24; (with_reducible refine (r14In.calls k4 _ _ l0_13 x10_4 true _ ?side1 ?side2 A52.out).mono ?_); (case side1 => repeat (first | exact (Kd.C_below HR0_13.out HB.out) | (with_reducible refine Kd.C_alloc ?_ _) | (with_reducible refine Kd.C_drewN ?_ _) | (with_reducible refine Kd.C_drew ?_))); (case side2 => exact HC0_13.out); rintro e w' ⟨rfl, ⟨nd, rfl⟩⟩; (try first | exact ⟨rfl, _, World.drewN_drewN _ _ _⟩ | exact ⟨rfl, _, Eq.trans (World.drewN_drewN _ _ _) (congrArg (World.drewN _) (Nat.add_assoc _ _ _))⟩))); try go_wp2_with (first | (go_at_call 24; (with_reducible refine (r14In.calls k4 _ _ l0_13 x10_4 true _ ?side1 ?side2 A52.out).mono ?_); (case side1 => repeat (first | exact (Kd.C_below HR0_13.out HB.out) | (with_reducible refine Kd.C_alloc ?_ _) | (with_reducible refine Kd.C_drewN ?_ _) | (with_reducible refine Kd.C_drew ?_))); (case side2 => exact HC0_13.out); rintro e w' ⟨rfl, ⟨nd, rfl⟩⟩; (try first | exact ⟨rfl, _, World.drewN_drewN _ _ _⟩ | exact ⟨rfl, _, Eq.trans (World.drewN_drewN _ _ _) (congrArg (World.drewN _) (Nat.add_assoc _ _ _))⟩))))
              go_roundg k4
              case measure => have := HJ2.out; have := HJ36.out; have := HK3.out; have := HK4.out; omega
              case rel => exact ⟨(wrap64 (x10_4 + 1)), (by first | rfl | (simp; done) | (simp [*]; done)), H', ⟨by have := HJ2.out; have := HJ36.out; have := HK3.out; have := HK4.out; omega⟩, ⟨by (with_reducible repeat (first | apply Kd.R_alloc | apply Kd.R_drewN | apply Kd.R_drew)); exact HO_6.out⟩, ⟨blk_⟩, ⟨bel_⟩⟩
             ·
              replace c53 := Bool.eq_false_iff.mpr c53
              subst c53
              have H1 : (if 0 ≤ x9_3 then (if x9_3 < (t455.length : Int) then (if 0 ≤ x10_4 then (if x10_4 < ((rdOf ByteArray.empty t455 x9_3).size : Int) then (if 0 ≤ x7_36 then (if x7_36 < ((rdOf ByteArray.empty t455 x9_3).size : Int) then (if (bt (rdOf ByteArray.empty t455 x9_3) x10_4) = (bt (rdOf ByteArray.empty t455 x9_3) x7_36) then (l18BeatSettles.l2 k4 t454 t455 x7_36 x8_3 x9_3 (wrap64 (x10_4 + 1)) a0_0 a0_1 a0_2 a0_3 a0_4 a0_5 a0_6 a0_7 a0_8 a0_9 l0_10 l0_11 l0_12 l0_13 l0_14) else (some false)) else (none)) else (none)) else (none)) else (none)) else (none)) else (none)) = some r := by rw [if_neg (show ¬ (false = true) by decide)] at H; exact H
              clear H
              have H := H1
              clear H1
              by_cases c55 : 0 ≤ x9_3
              ·
               rw [if_pos c55] at H
               have c55b0 : decide (0 ≤ x9_3) = true := decide_eq_true c55
               clear c55
               by_cases c56 : x9_3 < (t455.length : Int)
               ·
                rw [if_pos c56] at H
                have c56b0 : decide (x9_3 < (t455.length : Int)) = true := decide_eq_true c56
                clear c56
                by_cases c57 : 0 ≤ x10_4
                ·
                 rw [if_pos c57] at H
                 have c57b0 : decide (0 ≤ x10_4) = true := decide_eq_true c57
                 clear c57
                 by_cases c58 : x10_4 < ((rdOf ByteArray.empty t455 x9_3).size : Int)
                 ·
                  rw [if_pos c58] at H
                  have c58b0 : decide (x10_4 < ((rdOf ByteArray.empty t455 x9_3).size : Int)) = true := decide_eq_true c58
                  clear c58
                  by_cases c60 : 0 ≤ x7_36
                  ·
                   rw [if_pos c60] at H
                   have c60b0 : decide (0 ≤ x7_36) = true := decide_eq_true c60
                   clear c60
                   by_cases c61 : x7_36 < ((rdOf ByteArray.empty t455 x9_3).size : Int)
                   ·
                    rw [if_pos c61] at H
                    have c61b0 : decide (x7_36 < ((rdOf ByteArray.empty t455 x9_3).size : Int)) = true := decide_eq_true c61
                    clear c61
                    by_cases c63 : (bt (rdOf ByteArray.empty t455 x9_3) x10_4) = (bt (rdOf ByteArray.empty t455 x9_3) x7_36)
                    ·
                     rw [if_pos c63] at H
                     have c63b0 : ((bt (rdOf ByteArray.empty t455 x9_3) x10_4) == (bt (rdOf ByteArray.empty t455 x9_3) x7_36)) = true := beq_iff_eq.mpr c63
                     have c63b1 : ((bt (rdOf ByteArray.empty t455 x9_3) x10_4) != (bt (rdOf ByteArray.empty t455 x9_3) x7_36)) = false := bne_eq_false_iff_eq.mpr c63
                     clear c63
                     have H' := Sd.mk H
                     clear H
                     obtain ⟨z64_0, z64_1, z64_2, z64_3, z64_4, z64_5, z64_6, z64_7, z64_8, z64_9, z64_10, z64_11, z64_12, z64_13, z64_14, j64_0, j64_1, j64_2, j64_3, j64_4, j64_5, j64_6, j64_7, j64_8, j64_9, j64_10, j64_11, j64_12, j64_13, j64_14⟩ := cells15 BK451.out
                     go_wp2_with (first | (go_at_call 24; (with_reducible refine (r14In.calls k4 _ _ l0_13 x10_4 false _ ?side1 ?side2 A52.out).mono ?_); (case side1 => repeat (first | exact (Kd.C_below HR0_13.out HB.out) | (with_reducible refine Kd.C_alloc ?_ _) | (with_reducible refine Kd.C_drewN ?_ _) | (with_reducible refine Kd.C_drew ?_))); (case side2 => exact HC0_13.out); rintro e w' ⟨rfl, ⟨nd, rfl⟩⟩; (try first | exact ⟨rfl, _, World.drewN_drewN _ _ _⟩ | exact ⟨rfl, _, Eq.trans (World.drewN_drewN _ _ _) (congrArg (World.drewN _) (Nat.add_assoc _ _ _))⟩); have p462 : 0 ≤ (x9_3 : Int) := of_decide_eq_true (by first | (with_reducible assumption) | assumption); have q462 : x9_3 < (t455.length : Int) := of_decide_eq_true (by first | (with_reducible assumption) | assumption); obtain ⟨ad462, e462, hx462_0⟩ := Kd.at_string (Kd.R_reads' HO_6.out).2.2 x9_3 p462 q462; cases e462; replace p462 := eq_true p462; replace q462 := eq_true q462; have p59 : 0 ≤ (x10_4 : Int) := of_decide_eq_true (by first | (with_reducible assumption) | assumption); have q59 : x10_4 < ((rdOf ByteArray.empty t455 x9_3).size : Int) := of_decide_eq_true (by first | (with_reducible assumption) | assumption); have hx59 := bt_at (rdOf ByteArray.empty t455 x9_3) x10_4; replace p59 := eq_true p59; replace q59 := eq_true q59; have p463 : 0 ≤ (x9_3 : Int) := of_decide_eq_true (by first | (with_reducible assumption) | assumption); have q463 : x9_3 < (t455.length : Int) := of_decide_eq_true (by first | (with_reducible assumption) | assumption); obtain ⟨ad463, e463, hx463_0⟩ := Kd.at_string (Kd.R_reads' HO_6.out).2.2 x9_3 p463 q463; obtain rfl : ad462 = ad463 := (by injection e463); replace p463 := eq_true p463; replace q463 := eq_true q463; have p62 : 0 ≤ (x7_36 : Int) := of_decide_eq_true (by first | (with_reducible assumption) | assumption); have q62 : x7_36 < ((rdOf ByteArray.empty t455 x9_3).size : Int) := of_decide_eq_true (by first | (with_reducible assumption) | assumption); have hx62 := bt_at (rdOf ByteArray.empty t455 x9_3) x7_36; replace p62 := eq_true p62; replace q62 := eq_true q62))
                     repeat (go_quiet (first | (go_at_call 24; (with_reducible refine (r14In.calls k4 _ _ l0_13 x10_4 false _ ?side1 ?side2 A52.out).mono ?_); (case side1 => repeat (first | exact (Kd.C_below HR0_13.out HB.out) | (with_reducible refine Kd.C_alloc ?_ _) | (with_reducible refine Kd.C_drewN ?_ _) | (with_reducible refine Kd.C_drew ?_))); (case side2 => exact HC0_13.out); rintro e w' ⟨rfl, ⟨nd, rfl⟩⟩; (try first | exact ⟨rfl, _, World.drewN_drewN _ _ _⟩ | exact ⟨rfl, _, Eq.trans (World.drewN_drewN _ _ _) (congrArg (World.drewN _) (Nat.add_assoc _ _ _))⟩); have p462 : 0 ≤ (x9_3 : Int) := of_decide_eq_true (by first | (with_reducible assumption) | assumption); have q462 : x9_3 < (t455.length : Int) := of_decide_eq_true (by first | (with_reducible assumption) | assumption); obtain ⟨ad462, e462, hx462_0⟩ := Kd.at_string (Kd.R_reads' HO_6.out).2.2 x9_3 p462 q462; cases e462; replace p462 := eq_true p462; replace q462 := eq_true q462; have p59 : 0 ≤ (x10_4 : Int) := of_decide_eq_true (by first | (with_reducible assumption) | assumption); have q59 : x10_4 < ((rdOf ByteArray.empty t455 x9_3).size : Int) := of_decide_eq_true (by first | (with_reducible assumption) | assumption); have hx59 := bt_at (rdOf ByteArray.empty t455 x9_3) x10_4; replace p59 := eq_true p59; replace q59 := eq_true q59; have p463 : 0 ≤ (x9_3 : Int) := of_decide_eq_true (by first | (with_reducible assumption) | assumption); have q463 : x9_3 < (t455.length : Int) := of_decide_eq_true (by first | (with_reducible assumption) | assumption); obtain ⟨ad463, e463, hx463_0⟩ := Kd.at_string (Kd.R_reads' HO_6.out).2.2 x9_3 p463 q463; obtain rfl : ad462 = ad463 := (by injection e463); replace p463 := eq_true p463; replace q463 := eq_true q463; have p62 : 0 ≤ (x7_36 : Int) := of_decide_eq_true (by first | (with_reducible assumption) | assumption); have q62 : x7_36 < ((rdOf ByteArray.empty t455 x9_3).size : Int) := of_decide_eq_true (by first | (with_reducible assumption) | assumption); have hx62 := bt_at (rdOf ByteArray.empty t455 x9_3) x7_36; replace p62 := eq_true p62; replace q62 := eq_true q62)); try go_wp2_with (first | (go_at_call 24; (with_reducible refine (r14In.calls k4 _ _ l0_13 x10_4 false _ ?side1 ?side2 A52.out).mono ?_); (case side1 => repeat (first | exact (Kd.C_below HR0_13.out HB.out) | (with_reducible refine Kd.C_alloc ?_ _) | (with_reducible refine Kd.C_drewN ?_ _) | (with_reducible refine Kd.C_drew ?_))); (case side2 => exact HC0_13.out); rintro e w' ⟨rfl, ⟨nd, rfl⟩⟩; (try first | exact ⟨rfl, _, World.drewN_drewN _ _ _⟩ | exact ⟨rfl, _, Eq.trans (World.drewN_drewN _ _ _) (congrArg (World.drewN _) (Nat.add_assoc _ _ _))⟩); have p462 : 0 ≤ (x9_3 : Int) := of_decide_eq_true (by first | (with_reducible assumption) | assumption); have q462 : x9_3 < (t455.length : Int) := of_decide_eq_true (by first | (with_reducible assumption) | assumption); obtain ⟨ad462, e462, hx462_0⟩ := Kd.at_string (Kd.R_reads' HO_6.out).2.2 x9_3 p462 q462; cases e462; replace p462 := eq_true p462; replace q462 := eq_true q462; have p59 : 0 ≤ (x10_4 : Int) := of_decide_eq_true (by first | (with_reducible assumption) | assumption); have q59 : x10_4 < ((rdOf ByteArray.empty t455 x9_3).size : Int) := of_decide_eq_true (by first | (with_reducible assumption) | assumption); have hx59 := bt_at (rdOf ByteArray.empty t455 x9_3) x10_4; replace p59 := eq_true p59; replace q59 := eq_true q59; have p463 : 0 ≤ (x9_3 : Int) := of_decide_eq_true (by first | (with_reducible assumption) | assumption); have q463 : x9_3 < (t455.length : Int) := of_decide_eq_true (by first | (with_reducible assumption) | assumption); obtain ⟨ad463, e463, hx463_0⟩ := Kd.at_string (Kd.R_reads' HO_6.out).2.2 x9_3 p463 q463; obtain rfl : ad462 = ad463 := (by injection e463); replace p463 := eq_true p463; replace q463 := eq_true q463; have p62 : 0 ≤ (x7_36 : Int) := of_decide_eq_true (by first | (with_reducible assumption) | assumption); have q62 : x7_36 < ((rdOf ByteArray.empty t455 x9_3).size : Int) := of_decide_eq_true (by first | (with_reducible assumption) | assumption); have hx62 := bt_at (rdOf ByteArray.empty t455 x9_3) x7_36; replace p62 := eq_true p62; replace q62 := eq_true q62)))
                     go_roundg k4
                     case measure => have := HJ2.out; have := HJ36.out; have := HK3.out; have := HK4.out; omega
                     case rel => exact ⟨(wrap64 (x10_4 + 1)), (by first | rfl | (simp; done) | (simp [*]; done)), H', ⟨by have := HJ2.out; have := HJ36.out; have := HK3.out; have := HK4.out; omega⟩, ⟨by (with_reducible repeat (first | apply Kd.R_alloc | apply Kd.R_drewN | apply Kd.R_drew)); exact HO_6.out⟩, ⟨blk_⟩, ⟨bel_⟩⟩
                    ·
                     rw [if_neg c63] at H
                     have c63b0 : ((bt (rdOf ByteArray.empty t455 x9_3) x10_4) == (bt (rdOf ByteArray.empty t455 x9_3) x7_36)) = false := beq_eq_false_iff_ne.mpr c63
                     have c63b1 : ((bt (rdOf ByteArray.empty t455 x9_3) x10_4) != (bt (rdOf ByteArray.empty t455 x9_3) x7_36)) = true := bne_iff_ne.mpr c63
                     (have H3_ := Option.some.inj H; have H4_ := hT.out; rw [← H3_] at H4_; exact absurd H4_ (by decide))
                   ·
                    rw [if_neg c61] at H
                    exact absurd H (by simp)
                  ·
                   rw [if_neg c60] at H
                   exact absurd H (by simp)
                 ·
                  rw [if_neg c58] at H
                  exact absurd H (by simp)
                ·
                 rw [if_neg c57] at H
                 exact absurd H (by simp)
               ·
                rw [if_neg c56] at H
                exact absurd H (by simp)
              ·
               rw [if_neg c55] at H
               exact absurd H (by simp)
            ·
             rw [if_neg c51] at H
             have c51b0 : decide (t454 ≤ x9_3) = false := decide_eq_false c51
             clear c51
             have H' := Sd.mk H
             clear H
             obtain ⟨z65_0, z65_1, z65_2, z65_3, z65_4, z65_5, z65_6, z65_7, z65_8, z65_9, z65_10, z65_11, z65_12, z65_13, z65_14, j65_0, j65_1, j65_2, j65_3, j65_4, j65_5, j65_6, j65_7, j65_8, j65_9, j65_10, j65_11, j65_12, j65_13, j65_14⟩ := cells15 BK451.out
             go_wp2
             repeat (go_quiet (fail); try go_wp2)
             go_roundg k4
             case measure => have := HJ2.out; have := HJ36.out; have := HK3.out; have := HK4.out; omega
             case rel => exact ⟨(wrap64 (x10_4 + 1)), (by first | rfl | (simp; done) | (simp [*]; done)), H', ⟨by have := HJ2.out; have := HJ36.out; have := HK3.out; have := HK4.out; omega⟩, ⟨by (with_reducible repeat (first | apply Kd.R_alloc | apply Kd.R_drewN | apply Kd.R_drew)); exact HO_6.out⟩, ⟨blk_⟩, ⟨bel_⟩⟩
           ·
            rw [if_neg c50] at H
            have c50b0 : decide (x10_4 < a0_0) = false := decide_eq_false c50
            clear c50
            by_cases c66 : 0 ≤ x9_3
            ·
             rw [if_pos c66] at H
             have c66b0 : decide (0 ≤ x9_3) = true := decide_eq_true c66
             clear c66
             by_cases c67 : x9_3 < (t455.length : Int)
             ·
              rw [if_pos c67] at H
              have c67b0 : decide (x9_3 < (t455.length : Int)) = true := decide_eq_true c67
              clear c67
              by_cases c68 : 0 ≤ x7_36
              ·
               rw [if_pos c68] at H
               have c68b0 := eq_true c68
               have c68b1 : decide (0 ≤ x7_36) = true := decide_eq_true c68
               clear c68
               by_cases c69 : x7_36 ≤ (wrap64 (x7_36 + 1))
               ·
                rw [if_pos c69] at H
                have c69b0 := eq_true c69
                have c69b1 : decide (x7_36 ≤ (wrap64 (x7_36 + 1))) = true := decide_eq_true c69
                by_cases c70 : (wrap64 (x7_36 + 1)) ≤ ((rdOf ByteArray.empty t455 x9_3).size : Int)
                ·
                 rw [if_pos c70] at H
                 have c70b0 := eq_true c70
                 have c70b1 : decide ((wrap64 (x7_36 + 1)) ≤ ((rdOf ByteArray.empty t455 x9_3).size : Int)) = true := decide_eq_true c70
                 by_cases c71 : x8_3.size + (((wrap64 (x7_36 + 1)) : Int).toNat - (x7_36 : Int).toNat) ≤ 9223372036854775807
                 ·
                  rw [if_pos c71] at H
                  have c71b0 := eq_true c71
                  have c71b1 : decide (x8_3.size + (((wrap64 (x7_36 + 1)) : Int).toNat - (x7_36 : Int).toNat) ≤ 9223372036854775807) = true := decide_eq_true c71
                  try have c71b2 : (9223372036854775807 < x8_3.size + (((wrap64 (x7_36 + 1)) : Int).toNat - (x7_36 : Int).toNat)) = False := eq_false (Nat.not_lt.2 c71)
                  have H' := Sd.mk H
                  clear H
                  obtain ⟨z72_0, z72_1, z72_2, z72_3, z72_4, z72_5, z72_6, z72_7, z72_8, z72_9, z72_10, z72_11, z72_12, z72_13, z72_14, j72_0, j72_1, j72_2, j72_3, j72_4, j72_5, j72_6, j72_7, j72_8, j72_9, j72_10, j72_11, j72_12, j72_13, j72_14⟩ := cells15 BK451.out
                  have p464 : 0 ≤ (x9_3 : Int) := of_decide_eq_true (by first | (with_reducible assumption) | assumption)
                  have q464 : x9_3 < (t455.length : Int) := of_decide_eq_true (by first | (with_reducible assumption) | assumption)
                  obtain ⟨ad464, e464, hx464_0⟩ := Kd.at_string (Kd.R_reads' HO_6.out).2.2 x9_3 p464 q464
                  cases e464
                  replace p464 := eq_true p464
                  replace q464 := eq_true q464
                  go_wp2
                  repeat (go_quiet (fail); try go_wp2)
                  go_roundg k4
                  case measure => have := HJ2.out; have := HJ36.out; have := HK3.out; have := HK4.out; omega
                  case rel => exact ⟨(x8_3 ++ ((rdOf ByteArray.empty t455 x9_3).extract (x7_36 : Int).toNat ((wrap64 (x7_36 + 1)) : Int).toNat)), (wrap64 (x9_3 + 1)), (by first | rfl | (simp; done) | (simp [*]; done)), (by first | rfl | (simp; done) | (simp [*]; done)), H', ⟨by have := HJ2.out; have := HJ36.out; have := HK3.out; have := HK4.out; omega⟩, ⟨by (with_reducible repeat (first | apply Kd.R_alloc | apply Kd.R_drewN | apply Kd.R_drew)); exact HO_6.out⟩, ⟨blk_⟩, ⟨bel_⟩⟩
                 ·
                  rw [if_neg c71] at H
                  exact absurd H (by simp)
                ·
                 rw [if_neg c70] at H
                 exact absurd H (by simp)
               ·
                rw [if_neg c69] at H
                exact absurd H (by simp)
              ·
               rw [if_neg c68] at H
               exact absurd H (by simp)
             ·
              rw [if_neg c67] at H
              exact absurd H (by simp)
            ·
             rw [if_neg c66] at H
             exact absurd H (by simp)
        ·
         rw [if_neg c48] at H
         have c48b0 : decide (x9_3 < (t455.length : Int)) = false := decide_eq_false c48
         clear c48
         replace H := Option.bind_eq_some_iff.mp H
         obtain ⟨t459, A730, H⟩ := H
         replace H : (if t459 = true then ((l18known.f k3).bind fun t460 => (some t460)) else (some false)) = some r := H
         have A73 := Sd.mk A730
         clear A730
         by_cases c74 : t459 = true
         ·
          subst c74
          have H1 : ((l18known.f k3).bind fun t460 => (some t460)) = some r := by rw [if_pos rfl] at H; exact H
          clear H
          have H := H1
          clear H1
          replace H := Option.bind_eq_some_iff.mp H
          obtain ⟨t460, A750, H⟩ := H
          replace H : (some t460) = some r := H
          have A75 := Sd.mk A750
          clear A750
          obtain rfl := Option.some.inj H
          obtain ⟨Ao76, co76, eo76⟩ := Kd.R_slice HO_6.out
          subst eo76
          obtain ⟨z77_0, z77_1, z77_2, z77_3, z77_4, z77_5, z77_6, z77_7, z77_8, z77_9, z77_10, z77_11, z77_12, z77_13, z77_14, j77_0, j77_1, j77_2, j77_3, j77_4, j77_5, j77_6, j77_7, j77_8, j77_9, j77_10, j77_11, j77_12, j77_13, j77_14⟩ := cells15 BK451.out
          go_wp2_with (first | (go_at_call 51; (with_reducible refine (l18regular.calls k3 a0_0 a0_1 a0_2 a0_3 a0_4 a0_5 a0_6 a0_7 a0_8 a0_9 _ _ l0_10 x8_3 t454 true _ ?side1 ?side2 A73.out).mono ?_); (case side1 => repeat (first | exact (Kd.C_below HR0_10.out HB.out) | (with_reducible refine Kd.C_alloc ?_ _) | (with_reducible refine Kd.C_drewN ?_ _) | (with_reducible refine Kd.C_drew ?_))); (case side2 => exact HC0_10.out); rintro e w78 ⟨rfl, hb⟩; have n0_ := Sd.mk (Kd.R_below (by (with_reducible repeat (first | apply Kd.R_alloc | apply Kd.R_drewN | apply Kd.R_drew)); exact HO_6.out) hb); have n1_ := Sd.mk (blk_below (g := gb451) blk_ hb); have n2_ := Sd.mk (below_step bel_ hb); clear HO_6; clear BK451; clear HB; have HO_6 := n0_; have BK451 := n1_; have HB := n2_; clear n0_ n1_ n2_; (try clear hb); (try clear hb2); (try clear hk); (try clear hi)) | (go_at_call 46; (with_reducible refine (l18known.calls k3  t460 _ A75.out).mono ?_); rintro e w79 ⟨rfl, hb⟩; have n0_ := Sd.mk (Kd.R_below (by (with_reducible repeat (first | apply Kd.R_alloc | apply Kd.R_drewN | apply Kd.R_drew)); exact HO_6.out) hb); have n1_ := Sd.mk (blk_below (g := gb451) blk_ hb); have n2_ := Sd.mk (below_step bel_ hb); clear HO_6; clear BK451; clear HB; have HO_6 := n0_; have BK451 := n1_; have HB := n2_; clear n0_ n1_ n2_; (try clear hb); (try clear hb2); (try clear hk); (try clear hi)))
          repeat (go_quiet (first | (go_at_call 51; (with_reducible refine (l18regular.calls k3 a0_0 a0_1 a0_2 a0_3 a0_4 a0_5 a0_6 a0_7 a0_8 a0_9 _ _ l0_10 x8_3 t454 true _ ?side1 ?side2 A73.out).mono ?_); (case side1 => repeat (first | exact (Kd.C_below HR0_10.out HB.out) | (with_reducible refine Kd.C_alloc ?_ _) | (with_reducible refine Kd.C_drewN ?_ _) | (with_reducible refine Kd.C_drew ?_))); (case side2 => exact HC0_10.out); rintro e w78 ⟨rfl, hb⟩; have n0_ := Sd.mk (Kd.R_below (by (with_reducible repeat (first | apply Kd.R_alloc | apply Kd.R_drewN | apply Kd.R_drew)); exact HO_6.out) hb); have n1_ := Sd.mk (blk_below (g := gb451) blk_ hb); have n2_ := Sd.mk (below_step bel_ hb); clear HO_6; clear BK451; clear HB; have HO_6 := n0_; have BK451 := n1_; have HB := n2_; clear n0_ n1_ n2_; (try clear hb); (try clear hb2); (try clear hk); (try clear hi)) | (go_at_call 46; (with_reducible refine (l18known.calls k3  t460 _ A75.out).mono ?_); rintro e w79 ⟨rfl, hb⟩; have n0_ := Sd.mk (Kd.R_below (by (with_reducible repeat (first | apply Kd.R_alloc | apply Kd.R_drewN | apply Kd.R_drew)); exact HO_6.out) hb); have n1_ := Sd.mk (blk_below (g := gb451) blk_ hb); have n2_ := Sd.mk (below_step bel_ hb); clear HO_6; clear BK451; clear HB; have HO_6 := n0_; have BK451 := n1_; have HB := n2_; clear n0_ n1_ n2_; (try clear hb); (try clear hb2); (try clear hk); (try clear hi))); try go_wp2_with (first | (go_at_call 51; (with_reducible refine (l18regular.calls k3 a0_0 a0_1 a0_2 a0_3 a0_4 a0_5 a0_6 a0_7 a0_8 a0_9 _ _ l0_10 x8_3 t454 true _ ?side1 ?side2 A73.out).mono ?_); (case side1 => repeat (first | exact (Kd.C_below HR0_10.out HB.out) | (with_reducible refine Kd.C_alloc ?_ _) | (with_reducible refine Kd.C_drewN ?_ _) | (with_reducible refine Kd.C_drew ?_))); (case side2 => exact HC0_10.out); rintro e w78 ⟨rfl, hb⟩; have n0_ := Sd.mk (Kd.R_below (by (with_reducible repeat (first | apply Kd.R_alloc | apply Kd.R_drewN | apply Kd.R_drew)); exact HO_6.out) hb); have n1_ := Sd.mk (blk_below (g := gb451) blk_ hb); have n2_ := Sd.mk (below_step bel_ hb); clear HO_6; clear BK451; clear HB; have HO_6 := n0_; have BK451 := n1_; have HB := n2_; clear n0_ n1_ n2_; (try clear hb); (try clear hb2); (try clear hk); (try clear hi)) | (go_at_call 46; (with_reducible refine (l18known.calls k3  t460 _ A75.out).mono ?_); rintro e w79 ⟨rfl, hb⟩; have n0_ := Sd.mk (Kd.R_below (by (with_reducible repeat (first | apply Kd.R_alloc | apply Kd.R_drewN | apply Kd.R_drew)); exact HO_6.out) hb); have n1_ := Sd.mk (blk_below (g := gb451) blk_ hb); have n2_ := Sd.mk (below_step bel_ hb); clear HO_6; clear BK451; clear HB; have HO_6 := n0_; have BK451 := n1_; have HB := n2_; clear n0_ n1_ n2_; (try clear hb); (try clear hb2); (try clear hk); (try clear hi))))
          go_ret
          exact ⟨by first | rfl | (simp [errW_none, errW_some] <;> rfl) | (simp [*, errW_none, errW_some] <;> rfl), bel_⟩
         ·
          replace c74 := Bool.eq_false_iff.mpr c74
          subst c74
          have H1 : (some false) = some r := by rw [if_neg (show ¬ (false = true) by decide)] at H; exact H
          clear H
          have H := H1
          clear H1
          (have H3_ := Option.some.inj H; have H4_ := hT.out; rw [← H3_] at H4_; exact absurd H4_ (by decide))
end Go.Proofs.Ythblnnboeikgcaa.B
