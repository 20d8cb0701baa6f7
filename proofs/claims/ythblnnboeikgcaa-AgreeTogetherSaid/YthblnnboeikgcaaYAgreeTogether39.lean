import Derived.Test.YthblnnboeikgcaaYAgreeTogether34
import Derived.Test.YthblnnboeikgcaaYAgreeTogether33
set_option maxHeartbeats 8000000
set_option maxRecDepth 100000
namespace Go.Proofs.Ythblnnboeikgcaa.X
open Go.RowKit Go.Proofs.YthblnnboeikgcaaW.PrintWords Go.Proofs.YthblnnboeikgcaaW.PrintLast Go.Proofs.YthblnnboeikgcaaW.PrintMore
attribute [local go_sem] max2_int min2_int max_two min_two max_three min_three max_four min_four   -- for this text's walks alone
set_option linter.unusedVariables false
set_option linter.unusedSimpArgs false
mutual
def l19Cluster_saw.l0 : Nat → ByteArray → Int → Int → Int → Int → Int → Int → Int → Int → Int → Int → Int → Int → List Int → List Int → List ByteArray → List Int → List (S85) → Option (Bool)
 | 0, _, _, _, _, _, _, _, _, _, _, _, _, _, _, _, _, _, _ => none
 | k + 1, x1, x2, x7, v00, v01, v02, v03, v04, v05, v06, v07, v08, v09, v10, v11, v12, v13, v14 => if x7 < v00 then (if 0 ≤ x2 then (if x2 < (v12.length : Int) then ((r19Digits.f k (rdOf ByteArray.empty v12 x2) 0 v00).bind fun t423 => (if 0 ≤ x7 then (if x7 < (t423.size : Int) then (l19Cluster_saw.l1 k x1 x2 x7 true (bt t423 x7) 0 v00 v01 v02 v03 v04 v05 v06 v07 v08 v09 v10 v11 v12 v13 v14) else (none)) else (none))) else (none)) else (none)) else (some true)
def l19Cluster_saw.l1 : Nat → ByteArray → Int → Int → Bool → Int → Int → Int → Int → Int → Int → Int → Int → Int → Int → Int → Int → List Int → List Int → List ByteArray → List Int → List (S85) → Option (Bool)
 | 0, _, _, _, _, _, _, _, _, _, _, _, _, _, _, _, _, _, _, _, _, _ => none
 | k + 1, x1, x2, x7, x8, x9, x10, v00, v01, v02, v03, v04, v05, v06, v07, v08, v09, v10, v11, v12, v13, v14 => if x10 < v00 then (if x8 = true then ((r14In.f k v13 x10).bind fun t424 => (if t424 = true then (l19Cluster_saw.l1 k x1 x2 x7 true x9 (wrap64 (x10 + 1)) v00 v01 v02 v03 v04 v05 v06 v07 v08 v09 v10 v11 v12 v13 v14) else (if 0 ≤ x10 then (if x10 < (v12.length : Int) then ((r19Digits.f k (rdOf ByteArray.empty v12 x10) 0 v00).bind fun t426 => (if 0 ≤ x7 then (if x7 < (t426.size : Int) then (l19Cluster_saw.l1 k x1 x2 x7 ((bt t426 x7) == x9) x9 (wrap64 (x10 + 1)) v00 v01 v02 v03 v04 v05 v06 v07 v08 v09 v10 v11 v12 v13 v14) else (none)) else (none))) else (none)) else (none)))) else (l19Cluster_saw.l1 k x1 x2 x7 false x9 (wrap64 (x10 + 1)) v00 v01 v02 v03 v04 v05 v06 v07 v08 v09 v10 v11 v12 v13 v14)) else (if 0 ≤ (wrap64 (8 + x7)) then (if (wrap64 (8 + x7)) < (x1.size : Int) then (if (bt x1 (wrap64 (8 + x7))) = 48 then (if x8 = true then (if (bt x1 (wrap64 (8 + x7))) = x9 then (l19Cluster_saw.l0 k x1 x2 (wrap64 (x7 + 1)) v00 v01 v02 v03 v04 v05 v06 v07 v08 v09 v10 v11 v12 v13 v14) else (some false)) else (l19Cluster_saw.l0 k x1 x2 (wrap64 (x7 + 1)) v00 v01 v02 v03 v04 v05 v06 v07 v08 v09 v10 v11 v12 v13 v14)) else (if (bt x1 (wrap64 (8 + x7))) = 49 then (if x8 = true then (if (bt x1 (wrap64 (8 + x7))) = x9 then (l19Cluster_saw.l0 k x1 x2 (wrap64 (x7 + 1)) v00 v01 v02 v03 v04 v05 v06 v07 v08 v09 v10 v11 v12 v13 v14) else (some false)) else (l19Cluster_saw.l0 k x1 x2 (wrap64 (x7 + 1)) v00 v01 v02 v03 v04 v05 v06 v07 v08 v09 v10 v11 v12 v13 v14)) else (some false))) else (none)) else (none))
end
def l19Cluster_saw.f (k : Nat) (a0_0 : Int) (a0_1 : Int) (a0_2 : Int) (a0_3 : Int) (a0_4 : Int) (a0_5 : Int) (a0_6 : Int) (a0_7 : Int) (a0_8 : Int) (a0_9 : Int) (l0_10 : List Int) (l0_11 : List Int) (l0_12 : List ByteArray) (l0_13 : List Int) (l0_14 : List (S85)) (a1 : ByteArray) (a2 : Int) : Option (Bool) := l19Cluster_saw.l0 k a1 a2 0 a0_0 a0_1 a0_2 a0_3 a0_4 a0_5 a0_6 a0_7 a0_8 a0_9 l0_10 l0_11 l0_12 l0_13 l0_14
theorem l19Cluster_saw.calls (k : Nat) (a0_0 : Int) (a0_1 : Int) (a0_2 : Int) (a0_3 : Int) (a0_4 : Int) (a0_5 : Int) (a0_6 : Int) (a0_7 : Int) (a0_8 : Int) (a0_9 : Int) (A0_10 : Option Addr) (c0_10 : Nat) (l0_10 : List Int) (A0_11 : Option Addr) (c0_11 : Nat) (l0_11 : List Int) (A0_12 : Option Addr) (c0_12 : Nat) (l0_12 : List ByteArray) (A0_13 : Option Addr) (c0_13 : Nat) (l0_13 : List Int) (A0_14 : Option Addr) (c0_14 : Nat) (l0_14 : List (S85)) (a1 : ByteArray) (a2 : Int) (r : Bool) (w : World) (hr0_10 : Kd.C (Kd.int .i64) w A0_10 l0_10.length l0_10) (hc0_10 : l0_10.length ≤ c0_10) (hr0_11 : Kd.C (Kd.int .i64) w A0_11 l0_11.length l0_11) (hc0_11 : l0_11.length ≤ c0_11) (hr0_12 : Kd.C Kd.string w A0_12 l0_12.length l0_12) (hc0_12 : l0_12.length ≤ c0_12) (hr0_13 : Kd.C (Kd.int .i64) w A0_13 l0_13.length l0_13) (hc0_13 : l0_13.length ≤ c0_13) (hr0_14 : Kd.C k85 w A0_14 l0_14.length l0_14) (hc0_14 : l0_14.length ≤ c0_14) (h : l19Cluster_saw.f k a0_0 a0_1 a0_2 a0_3 a0_4 a0_5 a0_6 a0_7 a0_8 a0_9 l0_10 l0_11 l0_12 l0_13 l0_14 a1 a2 = some r) :
  Calls Try.prog 27 #[.agg #[.int .i64 a0_0, .int .i64 a0_1, .int .i64 a0_2, .int .i64 a0_3, .int .i64 a0_4, .int .i64 a0_5, .int .i64 a0_6, .int .i64 a0_7, .int .i64 a0_8, .int .i64 a0_9, .slice A0_10 l0_10.length c0_10, .slice A0_11 l0_11.length c0_11, .slice A0_12 l0_12.length c0_12, .slice A0_13 l0_13.length c0_13, .slice A0_14 l0_14.length c0_14], .string a1, .int .i64 a2] w fun e w' => e = .returned (.bool r) ∧ Below w.heap.size w w' := by
 have hu39 := Try.underlying39
 have HR0_10 := Sd.mk hr0_10
 have HC0_10 := Sd.mk hc0_10
 clear hr0_10 hc0_10
 have HR0_11 := Sd.mk hr0_11
 have HC0_11 := Sd.mk hc0_11
 clear hr0_11 hc0_11
 have HR0_12 := Sd.mk hr0_12
 have HC0_12 := Sd.mk hc0_12
 clear hr0_12 hc0_12
 have HR0_13 := Sd.mk hr0_13
 have HC0_13 := Sd.mk hc0_13
 clear hr0_13 hc0_13
 have HR0_14 := Sd.mk hr0_14
 have HC0_14 := Sd.mk hc0_14
 clear hr0_14 hc0_14
 have HB := Sd.mk (Below.refl w.heap.size w)
 have H : (l19Cluster_saw.l0 k a1 a2 0 a0_0 a0_1 a0_2 a0_3 a0_4 a0_5 a0_6 a0_7 a0_8 a0_9 l0_10 l0_11 l0_12 l0_13 l0_14) = some r := h
 clear h
 have H' := Sd.mk H
 clear H
 go_enter Try.func27, Try.ntmps27
 go_wp2_with (first | ((with_reducible refine gate_dst (N := 3) rfl ?_); refine box_event ?hg (N := 3) ?hd (cs := #[.int .i64 a0_0, .int .i64 a0_1, .int .i64 a0_2, .int .i64 a0_3, .int .i64 a0_4, .int .i64 a0_5, .int .i64 a0_6, .int .i64 a0_7, .int .i64 a0_8, .int .i64 a0_9, .slice A0_10 l0_10.length c0_10, .slice A0_11 l0_11.length c0_11, .slice A0_12 l0_12.length c0_12, .slice A0_13 l0_13.length c0_13, .slice A0_14 l0_14.length c0_14]) (t := 39) ?hr ?_; (case hd => rfl); (case hg => rfl); (case hr => first | (go_simp; done) | (go_simp; rfl)); intro gb421 hg w4 hbox hb; have n0_ := Sd.mk (below_step bel_ hb); have n1_ := Sd.mk (hbox); have n2_ := Sd.mk ((by rw [hg]; exact (below_size bel_) : w.heap.size ≤ gb421)); have n3_ := Sd.mk ((by rw [hg]; exact (below_size bel_) : w.heap.size ≤ gb421)); clear HB; have HB := n0_; have BK421 := n1_; have GW421 := n2_; have GE421 := n3_; clear n0_ n1_ n2_ n3_; clear hb hbox hg))
 repeat (go_quiet (first | ((with_reducible refine gate_dst (N := 3) rfl ?_); refine box_event ?hg (N := 3) ?hd (cs := #[.int .i64 a0_0, .int .i64 a0_1, .int .i64 a0_2, .int .i64 a0_3, .int .i64 a0_4, .int .i64 a0_5, .int .i64 a0_6, .int .i64 a0_7, .int .i64 a0_8, .int .i64 a0_9, .slice A0_10 l0_10.length c0_10, .slice A0_11 l0_11.length c0_11, .slice A0_12 l0_12.length c0_12, .slice A0_13 l0_13.length c0_13, .slice A0_14 l0_14.length c0_14]) (t := 39) ?hr ?_; (case hd => rfl); (case hg => rfl); (case hr => first | (go_simp; done) | (go_simp; rfl)); intro gb421 hg w4 hbox hb; have n0_ := Sd.mk (below_step bel_ hb); have n1_ := Sd.mk (hbox); have n2_ := Sd.mk ((by rw [hg]; exact (below_size bel_) : w.heap.size ≤ gb421)); have n3_ := Sd.mk ((by rw [hg]; exact (below_size bel_) : w.heap.size ≤ gb421)); clear HB; have HB := n0_; have BK421 := n1_; have GW421 := n2_; have GE421 := n3_; clear n0_ n1_ n2_ n3_; clear hb hbox hg)); try go_wp2_with (first | ((with_reducible refine gate_dst (N := 3) rfl ?_); refine box_event ?hg (N := 3) ?hd (cs := #[.int .i64 a0_0, .int .i64 a0_1, .int .i64 a0_2, .int .i64 a0_3, .int .i64 a0_4, .int .i64 a0_5, .int .i64 a0_6, .int .i64 a0_7, .int .i64 a0_8, .int .i64 a0_9, .slice A0_10 l0_10.length c0_10, .slice A0_11 l0_11.length c0_11, .slice A0_12 l0_12.length c0_12, .slice A0_13 l0_13.length c0_13, .slice A0_14 l0_14.length c0_14]) (t := 39) ?hr ?_; (case hd => rfl); (case hg => rfl); (case hr => first | (go_simp; done) | (go_simp; rfl)); intro gb421 hg w4 hbox hb; have n0_ := Sd.mk (below_step bel_ hb); have n1_ := Sd.mk (hbox); have n2_ := Sd.mk ((by rw [hg]; exact (below_size bel_) : w.heap.size ≤ gb421)); have n3_ := Sd.mk ((by rw [hg]; exact (below_size bel_) : w.heap.size ≤ gb421)); clear HB; have HB := n0_; have BK421 := n1_; have GW421 := n2_; have GE421 := n3_; clear n0_ n1_ n2_ n3_; clear hb hbox hg)))
 go_loopg [7] k (fun kq v7 w' => ∃ (x7_1 : Int), v7 = .int .i64 x7_1 ∧ Sd (l19Cluster_saw.l0 kq a1 a2 x7_1 a0_0 a0_1 a0_2 a0_3 a0_4 a0_5 a0_6 a0_7 a0_8 a0_9 l0_10 l0_11 l0_12 l0_13 l0_14 = some r) ∧ Sd (kq ≤ k) ∧ Sd (w'.heap[gb421]? = some (.cells #[.int .i64 a0_0, .int .i64 a0_1, .int .i64 a0_2, .int .i64 a0_3, .int .i64 a0_4, .int .i64 a0_5, .int .i64 a0_6, .int .i64 a0_7, .int .i64 a0_8, .int .i64 a0_9, (.slice A0_10 l0_10.length c0_10), (.slice A0_11 l0_11.length c0_11), (.slice A0_12 l0_12.length c0_12), (.slice A0_13 l0_13.length c0_13), (.slice A0_14 l0_14.length c0_14)] 39 (0, 0))) ∧ Sd (Below w.heap.size w w'))
 case atStart => exact ⟨(0), (by first | rfl | (simp; done) | (simp [*]; done)), H', ⟨Nat.le_refl _⟩, ⟨blk_⟩, ⟨bel_⟩⟩
 case round =>
  clear H'
  try clear c2
  try clear p2
  obtain ⟨x7_1, rfl, HA, HK1, BK421, HB⟩ := hrel
  cases gk with
  | zero => exact absurd HA.out (by simp [l19Cluster_saw.l0])
  | succ k1 =>
   have H := HA.out
   clear HA
   simp only [l19Cluster_saw.l0] at H
   by_cases c5 : x7_1 < a0_0
   ·
    rw [if_pos c5] at H
    have c5b0 : decide (x7_1 < a0_0) = true := decide_eq_true c5
    clear c5
    by_cases c6 : 0 ≤ a2
    ·
     rw [if_pos c6] at H
     have c6b0 : decide (0 ≤ a2) = true := decide_eq_true c6
     clear c6
     by_cases c7 : a2 < (l0_12.length : Int)
     ·
      rw [if_pos c7] at H
      have c7b0 : decide (a2 < (l0_12.length : Int)) = true := decide_eq_true c7
      clear c7
      replace H := Option.bind_eq_some_iff.mp H
      obtain ⟨t423, A80, H⟩ := H
      replace H : (if 0 ≤ x7_1 then (if x7_1 < (t423.size : Int) then (l19Cluster_saw.l1 k1 a1 a2 x7_1 true (bt t423 x7_1) 0 a0_0 a0_1 a0_2 a0_3 a0_4 a0_5 a0_6 a0_7 a0_8 a0_9 l0_10 l0_11 l0_12 l0_13 l0_14) else (none)) else (none)) = some r := H
      have A8 := Sd.mk A80
      clear A80
      by_cases c9 : 0 ≤ x7_1
      ·
       rw [if_pos c9] at H
       have c9b0 : decide (0 ≤ x7_1) = true := decide_eq_true c9
       clear c9
       by_cases c10 : x7_1 < (t423.size : Int)
       ·
        rw [if_pos c10] at H
        have c10b0 : decide (x7_1 < (t423.size : Int)) = true := decide_eq_true c10
        clear c10
        have H' := Sd.mk H
        clear H
        obtain ⟨hcz12_0, hcz12_1, hcz12_2, hcz12_3, hcz12_4, hcz12_5, hcz12_6, hcz12_7, hcz12_8, hcz12_9, hcz12_10, hcz12_11, hcz12_12, hcz12_13, hcz12_14, hfz12_0, hfz12_1, hfz12_2, hfz12_3, hfz12_4, hfz12_5, hfz12_6, hfz12_7, hfz12_8, hfz12_9, hfz12_10, hfz12_11, hfz12_12, hfz12_13, hfz12_14⟩ := cells15 BK421.out
        have p422 : 0 ≤ (a2 : Int) := of_decide_eq_true (by first | (with_reducible assumption) | assumption)
        have q422 : a2 < (l0_12.length : Int) := of_decide_eq_true (by first | (with_reducible assumption) | assumption)
        obtain ⟨ad422, e422, hx422_0⟩ := Kd.at_string HR0_12.out a2 p422 q422
        cases e422
        replace hx422_0 := (HB.out.cell (World.block_lt_of_cell? w _ hx422_0)).trans hx422_0
        replace p422 := eq_true p422
        replace q422 := eq_true q422
        go_wp2_with (first | (go_at_call 65; (with_reducible refine (r19Digits.calls k1 (rdOf ByteArray.empty l0_12 a2) 0 a0_0 t423 _ A8.out).mono ?_); rintro e w' ⟨rfl, ⟨nd, rfl⟩⟩; (try first | exact ⟨rfl, _, World.drewN_drewN _ _ _⟩ | exact ⟨rfl, _, Eq.trans (World.drewN_drewN _ _ _) (congrArg (World.drewN _) (Nat.add_assoc _ _ _))⟩); have p11 : 0 ≤ (x7_1 : Int) := of_decide_eq_true (by first | (with_reducible assumption) | assumption); have q11 : x7_1 < (t423.size : Int) := of_decide_eq_true (by first | (with_reducible assumption) | assumption); have hx11 := bt_at t423 x7_1; replace p11 := eq_true p11; replace q11 := eq_true q11))
        repeat (go_quiet (first | (go_at_call 65; (with_reducible refine (r19Digits.calls k1 (rdOf ByteArray.empty l0_12 a2) 0 a0_0 t423 _ A8.out).mono ?_); rintro e w' ⟨rfl, ⟨nd, rfl⟩⟩; (try first | exact ⟨rfl, _, World.drewN_drewN _ _ _⟩ | exact ⟨rfl, _, Eq.trans (World.drewN_drewN _ _ _) (congrArg (World.drewN _) (Nat.add_assoc _ _ _))⟩); have p11 : 0 ≤ (x7_1 : Int) := of_decide_eq_true (by first | (with_reducible assumption) | assumption); have q11 : x7_1 < (t423.size : Int) := of_decide_eq_true (by first | (with_reducible assumption) | assumption); have hx11 := bt_at t423 x7_1; replace p11 := eq_true p11; replace q11 := eq_true q11)); try go_wp2_with (first | (go_at_call 65; (with_reducible refine (r19Digits.calls k1 (rdOf ByteArray.empty l0_12 a2) 0 a0_0 t423 _ A8.out).mono ?_); rintro e w' ⟨rfl, ⟨nd, rfl⟩⟩; (try first | exact ⟨rfl, _, World.drewN_drewN _ _ _⟩ | exact ⟨rfl, _, Eq.trans (World.drewN_drewN _ _ _) (congrArg (World.drewN _) (Nat.add_assoc _ _ _))⟩); have p11 : 0 ≤ (x7_1 : Int) := of_decide_eq_true (by first | (with_reducible assumption) | assumption); have q11 : x7_1 < (t423.size : Int) := of_decide_eq_true (by first | (with_reducible assumption) | assumption); have hx11 := bt_at t423 x7_1; replace p11 := eq_true p11; replace q11 := eq_true q11)))
        go_loopg [8, 10] k1 (fun kq v8 v10 w' => ∃ (x8_2 : Bool) (x10_2 : Int), v8 = .bool x8_2 ∧ v10 = .int .i64 x10_2 ∧ Sd (l19Cluster_saw.l1 kq a1 a2 x7_1 x8_2 (bt t423 x7_1) x10_2 a0_0 a0_1 a0_2 a0_3 a0_4 a0_5 a0_6 a0_7 a0_8 a0_9 l0_10 l0_11 l0_12 l0_13 l0_14 = some r) ∧ Sd (kq ≤ k1) ∧ Sd (w'.heap[gb421]? = some (.cells #[.int .i64 a0_0, .int .i64 a0_1, .int .i64 a0_2, .int .i64 a0_3, .int .i64 a0_4, .int .i64 a0_5, .int .i64 a0_6, .int .i64 a0_7, .int .i64 a0_8, .int .i64 a0_9, (.slice A0_10 l0_10.length c0_10), (.slice A0_11 l0_11.length c0_11), (.slice (some ad422) l0_12.length c0_12), (.slice A0_13 l0_13.length c0_13), (.slice A0_14 l0_14.length c0_14)] 39 (0, 0))) ∧ Sd (Below w.heap.size w w'))
        case atStart => exact ⟨(true), (0), (by first | rfl | (simp; done) | (simp [*]; done)), (by first | rfl | (simp; done) | (simp [*]; done)), H', ⟨Nat.le_refl _⟩, ⟨blk_⟩, ⟨bel_⟩⟩
        case round =>
         clear H'
         try clear c1
         try clear p1
         try clear q1
         try clear hx1
         try clear c2
         try clear p2
         try clear p4
         try clear q4
         try clear hx4
         try clear c5
         try clear c5b0
         try clear c6
         try clear c6b0
         try clear c7
         try clear c7b0
         try clear c9
         try clear c9b0
         try clear c10
         try clear c10b0
         try clear p11
         try clear q11
         try clear hx11
         try clear hcz12_0 hcz12_1 hcz12_10 hcz12_11 hcz12_12 hcz12_13 hcz12_14 hcz12_2 hcz12_3 hcz12_4 hcz12_5 hcz12_6 hcz12_7 hcz12_8 hcz12_9
         try clear hfz12_0 hfz12_1 hfz12_10 hfz12_11 hfz12_12 hfz12_13 hfz12_14 hfz12_2 hfz12_3 hfz12_4 hfz12_5 hfz12_6 hfz12_7 hfz12_8 hfz12_9
         try clear hx422_0
         try clear p11
         try clear p2
         try clear p422
         try clear q11
         try clear q422
         obtain ⟨x8_2, x10_2, rfl, rfl, HA, HK2, BK421, HB⟩ := hrel
         cases gk with
         | zero => exact absurd HA.out (by simp [l19Cluster_saw.l1])
         | succ k2 =>
          have H := HA.out
          clear HA
          simp only [l19Cluster_saw.l1] at H
          by_cases c13 : x10_2 < a0_0
          ·
           rw [if_pos c13] at H
           have c13b0 : decide (x10_2 < a0_0) = true := decide_eq_true c13
           clear c13
           by_cases c14 : x8_2 = true
           ·
            subst c14
            have H1 : ((r14In.f k2 l0_13 x10_2).bind fun t424 => (if t424 = true then (l19Cluster_saw.l1 k2 a1 a2 x7_1 true (bt t423 x7_1) (wrap64 (x10_2 + 1)) a0_0 a0_1 a0_2 a0_3 a0_4 a0_5 a0_6 a0_7 a0_8 a0_9 l0_10 l0_11 l0_12 l0_13 l0_14) else (if 0 ≤ x10_2 then (if x10_2 < (l0_12.length : Int) then ((r19Digits.f k2 (rdOf ByteArray.empty l0_12 x10_2) 0 a0_0).bind fun t426 => (if 0 ≤ x7_1 then (if x7_1 < (t426.size : Int) then (l19Cluster_saw.l1 k2 a1 a2 x7_1 ((bt t426 x7_1) == (bt t423 x7_1)) (bt t423 x7_1) (wrap64 (x10_2 + 1)) a0_0 a0_1 a0_2 a0_3 a0_4 a0_5 a0_6 a0_7 a0_8 a0_9 l0_10 l0_11 l0_12 l0_13 l0_14) else (none)) else (none))) else (none)) else (none)))) = some r := by rw [if_pos rfl] at H; exact H
            clear H
            have H := H1
            clear H1
            replace H := Option.bind_eq_some_iff.mp H
            obtain ⟨t424, A150, H⟩ := H
            replace H : (if t424 = true then (l19Cluster_saw.l1 k2 a1 a2 x7_1 true (bt t423 x7_1) (wrap64 (x10_2 + 1)) a0_0 a0_1 a0_2 a0_3 a0_4 a0_5 a0_6 a0_7 a0_8 a0_9 l0_10 l0_11 l0_12 l0_13 l0_14) else (if 0 ≤ x10_2 then (if x10_2 < (l0_12.length : Int) then ((r19Digits.f k2 (rdOf ByteArray.empty l0_12 x10_2) 0 a0_0).bind fun t426 => (if 0 ≤ x7_1 then (if x7_1 < (t426.size : Int) then (l19Cluster_saw.l1 k2 a1 a2 x7_1 ((bt t426 x7_1) == (bt t423 x7_1)) (bt t423 x7_1) (wrap64 (x10_2 + 1)) a0_0 a0_1 a0_2 a0_3 a0_4 a0_5 a0_6 a0_7 a0_8 a0_9 l0_10 l0_11 l0_12 l0_13 l0_14) else (none)) else (none))) else (none)) else (none))) = some r := H
            have A15 := Sd.mk A150
            clear A150
            by_cases c16 : t424 = true
            ·
             subst c16
             have H1 : (l19Cluster_saw.l1 k2 a1 a2 x7_1 true (bt t423 x7_1) (wrap64 (x10_2 + 1)) a0_0 a0_1 a0_2 a0_3 a0_4 a0_5 a0_6 a0_7 a0_8 a0_9 l0_10 l0_11 l0_12 l0_13 l0_14) = some r := by rw [if_pos rfl] at H; exact H
             clear H
             have H := H1
             clear H1
             have H' := Sd.mk H
             clear H
             obtain ⟨hcz17_0, hcz17_1, hcz17_2, hcz17_3, hcz17_4, hcz17_5, hcz17_6, hcz17_7, hcz17_8, hcz17_9, hcz17_10, hcz17_11, hcz17_12, hcz17_13, hcz17_14, hfz17_0, hfz17_1, hfz17_2, hfz17_3, hfz17_4, hfz17_5, hfz17_6, hfz17_7, hfz17_8, hfz17_9, hfz17_10, hfz17_11, hfz17_12, hfz17_13, hfz17_14⟩ := cells15 BK421.out
             go_wp2_with (first | (go_at_call 24; (with_reducible refine (r14In.calls k2 _ _ l0_13 x10_2 true _ ?side1 ?side2 A15.out).mono ?_); (case side1 => repeat (first | exact (Kd.C_below HR0_13.out HB.out) | (with_reducible refine Kd.C_alloc ?_ _) | (with_reducible refine Kd.C_drewN ?_ _) | (with_reducible refine Kd.C_drew ?_))); (case side2 => exact HC0_13.out); rintro e w' ⟨rfl, ⟨nd, rfl⟩⟩; (try first | exact ⟨rfl, _, World.drewN_drewN _ _ _⟩ | exact ⟨rfl, _, Eq.trans (World.drewN_drewN _ _ _) (congrArg (World.drewN _) (Nat.add_assoc _ _ _))⟩)))
             repeat (go_quiet (first | (go_at_call 24; (with_reducible refine (r14In.calls k2 _ _ l0_13 x10_2 true _ ?side1 ?side2 A15.out).mono ?_); (case side1 => repeat (first | exact (Kd.C_below HR0_13.out HB.out) | (with_reducible refine Kd.C_alloc ?_ _) | (with_reducible refine Kd.C_drewN ?_ _) | (with_reducible refine Kd.C_drew ?_))); (case side2 => exact HC0_13.out); rintro e w' ⟨rfl, ⟨nd, rfl⟩⟩; (try first | exact ⟨rfl, _, World.drewN_drewN _ _ _⟩ | exact ⟨rfl, _, Eq.trans (World.drewN_drewN _ _ _) (congrArg (World.drewN _) (Nat.add_assoc _ _ _))⟩))); try go_wp2_with (first | (go_at_call 24; (with_reducible refine (r14In.calls k2 _ _ l0_13 x10_2 true _ ?side1 ?side2 A15.out).mono ?_); (case side1 => repeat (first | exact (Kd.C_below HR0_13.out HB.out) | (with_reducible refine Kd.C_alloc ?_ _) | (with_reducible refine Kd.C_drewN ?_ _) | (with_reducible refine Kd.C_drew ?_))); (case side2 => exact HC0_13.out); rintro e w' ⟨rfl, ⟨nd, rfl⟩⟩; (try first | exact ⟨rfl, _, World.drewN_drewN _ _ _⟩ | exact ⟨rfl, _, Eq.trans (World.drewN_drewN _ _ _) (congrArg (World.drewN _) (Nat.add_assoc _ _ _))⟩))))
             go_roundg k2
             case measure => have := HK1.out; have := HK2.out; omega
             case rel => exact ⟨(true), (wrap64 (x10_2 + 1)), (by first | rfl | (simp; done) | (simp [*]; done)), (by first | rfl | (simp; done) | (simp [*]; done)), H', ⟨by have := HK1.out; have := HK2.out; omega⟩, ⟨blk_⟩, ⟨bel_⟩⟩
            ·
             replace c16 := Bool.eq_false_iff.mpr c16
             subst c16
             have H1 : (if 0 ≤ x10_2 then (if x10_2 < (l0_12.length : Int) then ((r19Digits.f k2 (rdOf ByteArray.empty l0_12 x10_2) 0 a0_0).bind fun t426 => (if 0 ≤ x7_1 then (if x7_1 < (t426.size : Int) then (l19Cluster_saw.l1 k2 a1 a2 x7_1 ((bt t426 x7_1) == (bt t423 x7_1)) (bt t423 x7_1) (wrap64 (x10_2 + 1)) a0_0 a0_1 a0_2 a0_3 a0_4 a0_5 a0_6 a0_7 a0_8 a0_9 l0_10 l0_11 l0_12 l0_13 l0_14) else (none)) else (none))) else (none)) else (none)) = some r := by rw [if_neg (show ¬ (false = true) by decide)] at H; exact H
             clear H
             have H := H1
             clear H1
             by_cases c18 : 0 ≤ x10_2
             ·
              rw [if_pos c18] at H
              have c18b0 : decide (0 ≤ x10_2) = true := decide_eq_true c18
              clear c18
              by_cases c19 : x10_2 < (l0_12.length : Int)
              ·
               rw [if_pos c19] at H
               have c19b0 : decide (x10_2 < (l0_12.length : Int)) = true := decide_eq_true c19
               clear c19
               replace H := Option.bind_eq_some_iff.mp H
               obtain ⟨t426, A200, H⟩ := H
               replace H : (if 0 ≤ x7_1 then (if x7_1 < (t426.size : Int) then (l19Cluster_saw.l1 k2 a1 a2 x7_1 ((bt t426 x7_1) == (bt t423 x7_1)) (bt t423 x7_1) (wrap64 (x10_2 + 1)) a0_0 a0_1 a0_2 a0_3 a0_4 a0_5 a0_6 a0_7 a0_8 a0_9 l0_10 l0_11 l0_12 l0_13 l0_14) else (none)) else (none)) = some r := H
               have A20 := Sd.mk A200
               clear A200
               by_cases c21 : 0 ≤ x7_1
               ·
                rw [if_pos c21] at H
                have c21b0 : decide (0 ≤ x7_1) = true := decide_eq_true c21
                clear c21
                by_cases c22 : x7_1 < (t426.size : Int)
                ·
                 rw [if_pos c22] at H
                 have c22b0 : decide (x7_1 < (t426.size : Int)) = true := decide_eq_true c22
                 clear c22
                 have H' := Sd.mk H
                 clear H
                 obtain ⟨hcz24_0, hcz24_1, hcz24_2, hcz24_3, hcz24_4, hcz24_5, hcz24_6, hcz24_7, hcz24_8, hcz24_9, hcz24_10, hcz24_11, hcz24_12, hcz24_13, hcz24_14, hfz24_0, hfz24_1, hfz24_2, hfz24_3, hfz24_4, hfz24_5, hfz24_6, hfz24_7, hfz24_8, hfz24_9, hfz24_10, hfz24_11, hfz24_12, hfz24_13, hfz24_14⟩ := cells15 BK421.out
                 go_wp2_with (first | (go_at_call 24; (with_reducible refine (r14In.calls k2 _ _ l0_13 x10_2 false _ ?side1 ?side2 A15.out).mono ?_); (case side1 => repeat (first | exact (Kd.C_below HR0_13.out HB.out) | (with_reducible refine Kd.C_alloc ?_ _) | (with_reducible refine Kd.C_drewN ?_ _) | (with_reducible refine Kd.C_drew ?_))); (case side2 => exact HC0_13.out); rintro e w' ⟨rfl, ⟨nd, rfl⟩⟩; (try first | exact ⟨rfl, _, World.drewN_drewN _ _ _⟩ | exact ⟨rfl, _, Eq.trans (World.drewN_drewN _ _ _) (congrArg (World.drewN _) (Nat.add_assoc _ _ _))⟩); have p425 : 0 ≤ (x10_2 : Int) := of_decide_eq_true (by first | (with_reducible assumption) | assumption); have q425 : x10_2 < (l0_12.length : Int) := of_decide_eq_true (by first | (with_reducible assumption) | assumption); obtain ⟨ad425, e425, hx425_0⟩ := Kd.at_string HR0_12.out x10_2 p425 q425; obtain rfl : ad422 = ad425 := (by injection e425); replace hx425_0 := (HB.out.cell (World.block_lt_of_cell? w _ hx425_0)).trans hx425_0; replace p425 := eq_true p425; replace q425 := eq_true q425) | (go_at_call 65; (with_reducible refine (r19Digits.calls k2 (rdOf ByteArray.empty l0_12 x10_2) 0 a0_0 t426 _ A20.out).mono ?_); rintro e w' ⟨rfl, ⟨nd, rfl⟩⟩; (try first | exact ⟨rfl, _, World.drewN_drewN _ _ _⟩ | exact ⟨rfl, _, Eq.trans (World.drewN_drewN _ _ _) (congrArg (World.drewN _) (Nat.add_assoc _ _ _))⟩); have p23 : 0 ≤ (x7_1 : Int) := of_decide_eq_true (by first | (with_reducible assumption) | assumption); have q23 : x7_1 < (t426.size : Int) := of_decide_eq_true (by first | (with_reducible assumption) | assumption); have hx23 := bt_at t426 x7_1; replace p23 := eq_true p23; replace q23 := eq_true q23))
                 repeat (go_quiet (first | (go_at_call 24; (with_reducible refine (r14In.calls k2 _ _ l0_13 x10_2 false _ ?side1 ?side2 A15.out).mono ?_); (case side1 => repeat (first | exact (Kd.C_below HR0_13.out HB.out) | (with_reducible refine Kd.C_alloc ?_ _) | (with_reducible refine Kd.C_drewN ?_ _) | (with_reducible refine Kd.C_drew ?_))); (case side2 => exact HC0_13.out); rintro e w' ⟨rfl, ⟨nd, rfl⟩⟩; (try first | exact ⟨rfl, _, World.drewN_drewN _ _ _⟩ | exact ⟨rfl, _, Eq.trans (World.drewN_drewN _ _ _) (congrArg (World.drewN _) (Nat.add_assoc _ _ _))⟩); have p425 : 0 ≤ (x10_2 : Int) := of_decide_eq_true (by first | (with_reducible assumption) | assumption); have q425 : x10_2 < (l0_12.length : Int) := of_decide_eq_true (by first | (with_reducible assumption) | assumption); obtain ⟨ad425, e425, hx425_0⟩ := Kd.at_string HR0_12.out x10_2 p425 q425; obtain rfl : ad422 = ad425 := (by injection e425); replace hx425_0 := (HB.out.cell (World.block_lt_of_cell? w _ hx425_0)).trans hx425_0; replace p425 := eq_true p425; replace q425 := eq_true q425) | (go_at_call 65; (with_reducible refine (r19Digits.calls k2 (rdOf ByteArray.empty l0_12 x10_2) 0 a0_0 t426 _ A20.out).mono ?_); rintro e w' ⟨rfl, ⟨nd, rfl⟩⟩; (try first | exact ⟨rfl, _, World.drewN_drewN _ _ _⟩ | exact ⟨rfl, _, Eq.trans (World.drewN_drewN _ _ _) (congrArg (World.drewN _) (Nat.add_assoc _ _ _))⟩); have p23 : 0 ≤ (x7_1 : Int) := of_decide_eq_true (by first | (with_reducible assumption) | assumption); have q23 : x7_1 < (t426.size : Int) := of_decide_eq_true (by first | (with_reducible assumption) | assumption); have hx23 := bt_at t426 x7_1; replace p23 := eq_true p23; replace q23 := eq_true q23)); try go_wp2_with (first | (go_at_call 24; (with_reducible refine (r14In.calls k2 _ _ l0_13 x10_2 false _ ?side1 ?side2 A15.out).mono ?_); (case side1 => repeat (first | exact (Kd.C_below HR0_13.out HB.out) | (with_reducible refine Kd.C_alloc ?_ _) | (with_reducible refine Kd.C_drewN ?_ _) | (with_reducible refine Kd.C_drew ?_))); (case side2 => exact HC0_13.out); rintro e w' ⟨rfl, ⟨nd, rfl⟩⟩; (try first | exact ⟨rfl, _, World.drewN_drewN _ _ _⟩ | exact ⟨rfl, _, Eq.trans (World.drewN_drewN _ _ _) (congrArg (World.drewN _) (Nat.add_assoc _ _ _))⟩); have p425 : 0 ≤ (x10_2 : Int) := of_decide_eq_true (by first | (with_reducible assumption) | assumption); have q425 : x10_2 < (l0_12.length : Int) := of_decide_eq_true (by first | (with_reducible assumption) | assumption); obtain ⟨ad425, e425, hx425_0⟩ := Kd.at_string HR0_12.out x10_2 p425 q425; obtain rfl : ad422 = ad425 := (by injection e425); replace hx425_0 := (HB.out.cell (World.block_lt_of_cell? w _ hx425_0)).trans hx425_0; replace p425 := eq_true p425; replace q425 := eq_true q425) | (go_at_call 65; (with_reducible refine (r19Digits.calls k2 (rdOf ByteArray.empty l0_12 x10_2) 0 a0_0 t426 _ A20.out).mono ?_); rintro e w' ⟨rfl, ⟨nd, rfl⟩⟩; (try first | exact ⟨rfl, _, World.drewN_drewN _ _ _⟩ | exact ⟨rfl, _, Eq.trans (World.drewN_drewN _ _ _) (congrArg (World.drewN _) (Nat.add_assoc _ _ _))⟩); have p23 : 0 ≤ (x7_1 : Int) := of_decide_eq_true (by first | (with_reducible assumption) | assumption); have q23 : x7_1 < (t426.size : Int) := of_decide_eq_true (by first | (with_reducible assumption) | assumption); have hx23 := bt_at t426 x7_1; replace p23 := eq_true p23; replace q23 := eq_true q23)))
                 go_roundg k2
                 case measure => have := HK1.out; have := HK2.out; omega
                 case rel => exact ⟨(((bt t426 x7_1) == (bt t423 x7_1))), (wrap64 (x10_2 + 1)), (by first | rfl | (simp; done) | (simp [*]; done)), (by first | rfl | (simp; done) | (simp [*]; done)), H', ⟨by have := HK1.out; have := HK2.out; omega⟩, ⟨blk_⟩, ⟨bel_⟩⟩
                ·
                 rw [if_neg c22] at H
                 exact absurd H (by simp)
               ·
                rw [if_neg c21] at H
                exact absurd H (by simp)
              ·
               rw [if_neg c19] at H
               exact absurd H (by simp)
             ·
              rw [if_neg c18] at H
              exact absurd H (by simp)
           ·
            replace c14 := Bool.eq_false_iff.mpr c14
            subst c14
            have H1 : (l19Cluster_saw.l1 k2 a1 a2 x7_1 false (bt t423 x7_1) (wrap64 (x10_2 + 1)) a0_0 a0_1 a0_2 a0_3 a0_4 a0_5 a0_6 a0_7 a0_8 a0_9 l0_10 l0_11 l0_12 l0_13 l0_14) = some r := by rw [if_neg (show ¬ (false = true) by decide)] at H; exact H
            clear H
            have H := H1
            clear H1
            have H' := Sd.mk H
            clear H
            obtain ⟨hcz25_0, hcz25_1, hcz25_2, hcz25_3, hcz25_4, hcz25_5, hcz25_6, hcz25_7, hcz25_8, hcz25_9, hcz25_10, hcz25_11, hcz25_12, hcz25_13, hcz25_14, hfz25_0, hfz25_1, hfz25_2, hfz25_3, hfz25_4, hfz25_5, hfz25_6, hfz25_7, hfz25_8, hfz25_9, hfz25_10, hfz25_11, hfz25_12, hfz25_13, hfz25_14⟩ := cells15 BK421.out
            go_wp2
            repeat (go_quiet (fail); try go_wp2)
            go_roundg k2
            case measure => have := HK1.out; have := HK2.out; omega
            case rel => exact ⟨(false), (wrap64 (x10_2 + 1)), (by first | rfl | (simp; done) | (simp [*]; done)), (by first | rfl | (simp; done) | (simp [*]; done)), H', ⟨by have := HK1.out; have := HK2.out; omega⟩, ⟨blk_⟩, ⟨bel_⟩⟩
          ·
           rw [if_neg c13] at H
           have c13b0 : decide (x10_2 < a0_0) = false := decide_eq_false c13
           clear c13
           obtain ⟨ji26, hji26⟩ : ∃ j_ : Int, (wrap64 (8 + x7_1)) = j_ := ⟨_, rfl⟩
           replace H : (if 0 ≤ (ji26) then (if (ji26) < (a1.size : Int) then (if (bt a1 (ji26)) = 48 then (if x8_2 = true then (if (bt a1 (ji26)) = (bt t423 x7_1) then (l19Cluster_saw.l0 k2 a1 a2 (wrap64 (x7_1 + 1)) a0_0 a0_1 a0_2 a0_3 a0_4 a0_5 a0_6 a0_7 a0_8 a0_9 l0_10 l0_11 l0_12 l0_13 l0_14) else (some false)) else (l19Cluster_saw.l0 k2 a1 a2 (wrap64 (x7_1 + 1)) a0_0 a0_1 a0_2 a0_3 a0_4 a0_5 a0_6 a0_7 a0_8 a0_9 l0_10 l0_11 l0_12 l0_13 l0_14)) else (if (bt a1 (ji26)) = 49 then (if x8_2 = true then (if (bt a1 (ji26)) = (bt t423 x7_1) then (l19Cluster_saw.l0 k2 a1 a2 (wrap64 (x7_1 + 1)) a0_0 a0_1 a0_2 a0_3 a0_4 a0_5 a0_6 a0_7 a0_8 a0_9 l0_10 l0_11 l0_12 l0_13 l0_14) else (some false)) else (l19Cluster_saw.l0 k2 a1 a2 (wrap64 (x7_1 + 1)) a0_0 a0_1 a0_2 a0_3 a0_4 a0_5 a0_6 a0_7 a0_8 a0_9 l0_10 l0_11 l0_12 l0_13 l0_14)) else (some false))) else (none)) else (none)) = some r := by first | (rw [hji26] at H; exact H) | (simp only [hji26] at H ⊢; exact H)
           have hji26w : (IntKind.i64.wrap (8 + x7_1)) = ji26 := (i64_w _).trans hji26
           by_cases c27 : 0 ≤ (ji26)
           ·
            rw [if_pos c27] at H
            have c27b0 : decide (0 ≤ (ji26)) = true := decide_eq_true c27
            clear c27
            by_cases c28 : (ji26) < (a1.size : Int)
            ·
             rw [if_pos c28] at H
             have c28b0 : decide ((ji26) < (a1.size : Int)) = true := decide_eq_true c28
             clear c28
             by_cases c30 : (bt a1 (ji26)) = 48
             ·
              rw [if_pos c30] at H
              have c30b0 : ((bt a1 (ji26)) == 48) = true := beq_iff_eq.mpr c30
              have c30b1 : ((bt a1 (ji26)) != 48) = false := bne_eq_false_iff_eq.mpr c30
              clear c30
              by_cases c31 : x8_2 = true
              ·
               subst c31
               have H1 : (if (bt a1 (ji26)) = (bt t423 x7_1) then (l19Cluster_saw.l0 k2 a1 a2 (wrap64 (x7_1 + 1)) a0_0 a0_1 a0_2 a0_3 a0_4 a0_5 a0_6 a0_7 a0_8 a0_9 l0_10 l0_11 l0_12 l0_13 l0_14) else (some false)) = some r := by rw [if_pos rfl] at H; exact H
               clear H
               have H := H1
               clear H1
               by_cases c33 : (bt a1 (ji26)) = (bt t423 x7_1)
               ·
                rw [if_pos c33] at H
                have c33b0 : ((bt a1 (ji26)) == (bt t423 x7_1)) = true := beq_iff_eq.mpr c33
                have c33b1 : ((bt a1 (ji26)) != (bt t423 x7_1)) = false := bne_eq_false_iff_eq.mpr c33
                clear c33
                have H' := Sd.mk H
                clear H
                obtain ⟨hcz34_0, hcz34_1, hcz34_2, hcz34_3, hcz34_4, hcz34_5, hcz34_6, hcz34_7, hcz34_8, hcz34_9, hcz34_10, hcz34_11, hcz34_12, hcz34_13, hcz34_14, hfz34_0, hfz34_1, hfz34_2, hfz34_3, hfz34_4, hfz34_5, hfz34_6, hfz34_7, hfz34_8, hfz34_9, hfz34_10, hfz34_11, hfz34_12, hfz34_13, hfz34_14⟩ := cells15 BK421.out
                have p29 : 0 ≤ ((ji26) : Int) := of_decide_eq_true (by first | (with_reducible assumption) | assumption)
                have q29 : (ji26) < (a1.size : Int) := of_decide_eq_true (by first | (with_reducible assumption) | assumption)
                have hx29 := bt_at a1 (ji26)
                replace p29 := eq_true p29
                replace q29 := eq_true q29
                have p32 : 0 ≤ ((ji26) : Int) := of_decide_eq_true (by first | (with_reducible assumption) | assumption)
                have q32 : (ji26) < (a1.size : Int) := of_decide_eq_true (by first | (with_reducible assumption) | assumption)
                have hx32 := bt_at a1 (ji26)
                replace p32 := eq_true p32
                replace q32 := eq_true q32
                go_wp2
                repeat (go_quiet (fail); try go_wp2)
                go_roundg k2
                case measure => have := HK1.out; have := HK2.out; omega
                case rel => exact ⟨(wrap64 (x7_1 + 1)), (by first | rfl | (simp; done) | (simp [*]; done)), H', ⟨by have := HK1.out; have := HK2.out; omega⟩, ⟨blk_⟩, ⟨bel_⟩⟩
               ·
                rw [if_neg c33] at H
                have c33b0 : ((bt a1 (ji26)) == (bt t423 x7_1)) = false := beq_eq_false_iff_ne.mpr c33
                have c33b1 : ((bt a1 (ji26)) != (bt t423 x7_1)) = true := bne_iff_ne.mpr c33
                obtain rfl := Option.some.inj H
                obtain ⟨hcz35_0, hcz35_1, hcz35_2, hcz35_3, hcz35_4, hcz35_5, hcz35_6, hcz35_7, hcz35_8, hcz35_9, hcz35_10, hcz35_11, hcz35_12, hcz35_13, hcz35_14, hfz35_0, hfz35_1, hfz35_2, hfz35_3, hfz35_4, hfz35_5, hfz35_6, hfz35_7, hfz35_8, hfz35_9, hfz35_10, hfz35_11, hfz35_12, hfz35_13, hfz35_14⟩ := cells15 BK421.out
                have p29 : 0 ≤ ((ji26) : Int) := of_decide_eq_true (by first | (with_reducible assumption) | assumption)
                have q29 : (ji26) < (a1.size : Int) := of_decide_eq_true (by first | (with_reducible assumption) | assumption)
                have hx29 := bt_at a1 (ji26)
                replace p29 := eq_true p29
                replace q29 := eq_true q29
                have p32 : 0 ≤ ((ji26) : Int) := of_decide_eq_true (by first | (with_reducible assumption) | assumption)
                have q32 : (ji26) < (a1.size : Int) := of_decide_eq_true (by first | (with_reducible assumption) | assumption)
                have hx32 := bt_at a1 (ji26)
                replace p32 := eq_true p32
                replace q32 := eq_true q32
                go_wp2
                repeat (go_quiet (fail); try go_wp2)
                go_ret
                exact ⟨by first | rfl | (simp [errW_none, errW_some] <;> rfl) | (simp only [← hji26]; first | rfl | (simp [errW_none, errW_some] <;> rfl)) | (simp [*, errW_none, errW_some] <;> rfl), bel_⟩
              ·
               replace c31 := Bool.eq_false_iff.mpr c31
               subst c31
               have H1 : (l19Cluster_saw.l0 k2 a1 a2 (wrap64 (x7_1 + 1)) a0_0 a0_1 a0_2 a0_3 a0_4 a0_5 a0_6 a0_7 a0_8 a0_9 l0_10 l0_11 l0_12 l0_13 l0_14) = some r := by rw [if_neg (show ¬ (false = true) by decide)] at H; exact H
               clear H
               have H := H1
               clear H1
               have H' := Sd.mk H
               clear H
               obtain ⟨hcz36_0, hcz36_1, hcz36_2, hcz36_3, hcz36_4, hcz36_5, hcz36_6, hcz36_7, hcz36_8, hcz36_9, hcz36_10, hcz36_11, hcz36_12, hcz36_13, hcz36_14, hfz36_0, hfz36_1, hfz36_2, hfz36_3, hfz36_4, hfz36_5, hfz36_6, hfz36_7, hfz36_8, hfz36_9, hfz36_10, hfz36_11, hfz36_12, hfz36_13, hfz36_14⟩ := cells15 BK421.out
               have p29 : 0 ≤ ((ji26) : Int) := of_decide_eq_true (by first | (with_reducible assumption) | assumption)
               have q29 : (ji26) < (a1.size : Int) := of_decide_eq_true (by first | (with_reducible assumption) | assumption)
               have hx29 := bt_at a1 (ji26)
               replace p29 := eq_true p29
               replace q29 := eq_true q29
               go_wp2
               repeat (go_quiet (fail); try go_wp2)
               go_roundg k2
               case measure => have := HK1.out; have := HK2.out; omega
               case rel => exact ⟨(wrap64 (x7_1 + 1)), (by first | rfl | (simp; done) | (simp [*]; done)), H', ⟨by have := HK1.out; have := HK2.out; omega⟩, ⟨blk_⟩, ⟨bel_⟩⟩
             ·
              rw [if_neg c30] at H
              have c30b0 : ((bt a1 (ji26)) == 48) = false := beq_eq_false_iff_ne.mpr c30
              have c30b1 : ((bt a1 (ji26)) != 48) = true := bne_iff_ne.mpr c30
              by_cases c38 : (bt a1 (ji26)) = 49
              ·
               rw [if_pos c38] at H
               have c38b0 : ((bt a1 (ji26)) == 49) = true := beq_iff_eq.mpr c38
               have c38b1 : ((bt a1 (ji26)) != 49) = false := bne_eq_false_iff_eq.mpr c38
               clear c38
               by_cases c39 : x8_2 = true
               ·
                subst c39
                have H1 : (if (bt a1 (ji26)) = (bt t423 x7_1) then (l19Cluster_saw.l0 k2 a1 a2 (wrap64 (x7_1 + 1)) a0_0 a0_1 a0_2 a0_3 a0_4 a0_5 a0_6 a0_7 a0_8 a0_9 l0_10 l0_11 l0_12 l0_13 l0_14) else (some false)) = some r := by rw [if_pos rfl] at H; exact H
                clear H
                have H := H1
                clear H1
                by_cases c41 : (bt a1 (ji26)) = (bt t423 x7_1)
                ·
                 rw [if_pos c41] at H
                 have c41b0 : ((bt a1 (ji26)) == (bt t423 x7_1)) = true := beq_iff_eq.mpr c41
                 have c41b1 : ((bt a1 (ji26)) != (bt t423 x7_1)) = false := bne_eq_false_iff_eq.mpr c41
                 clear c41
                 have H' := Sd.mk H
                 clear H
                 obtain ⟨hcz42_0, hcz42_1, hcz42_2, hcz42_3, hcz42_4, hcz42_5, hcz42_6, hcz42_7, hcz42_8, hcz42_9, hcz42_10, hcz42_11, hcz42_12, hcz42_13, hcz42_14, hfz42_0, hfz42_1, hfz42_2, hfz42_3, hfz42_4, hfz42_5, hfz42_6, hfz42_7, hfz42_8, hfz42_9, hfz42_10, hfz42_11, hfz42_12, hfz42_13, hfz42_14⟩ := cells15 BK421.out
                 have p29 : 0 ≤ ((ji26) : Int) := of_decide_eq_true (by first | (with_reducible assumption) | assumption)
                 have q29 : (ji26) < (a1.size : Int) := of_decide_eq_true (by first | (with_reducible assumption) | assumption)
                 have hx29 := bt_at a1 (ji26)
                 replace p29 := eq_true p29
                 replace q29 := eq_true q29
                 have p37 : 0 ≤ ((ji26) : Int) := of_decide_eq_true (by first | (with_reducible assumption) | assumption)
                 have q37 : (ji26) < (a1.size : Int) := of_decide_eq_true (by first | (with_reducible assumption) | assumption)
                 have hx37 := bt_at a1 (ji26)
                 replace p37 := eq_true p37
                 replace q37 := eq_true q37
                 have p40 : 0 ≤ ((ji26) : Int) := of_decide_eq_true (by first | (with_reducible assumption) | assumption)
                 have q40 : (ji26) < (a1.size : Int) := of_decide_eq_true (by first | (with_reducible assumption) | assumption)
                 have hx40 := bt_at a1 (ji26)
                 replace p40 := eq_true p40
                 replace q40 := eq_true q40
                 go_wp2
                 repeat (go_quiet (fail); try go_wp2)
                 go_roundg k2
                 case measure => have := HK1.out; have := HK2.out; omega
                 case rel => exact ⟨(wrap64 (x7_1 + 1)), (by first | rfl | (simp; done) | (simp [*]; done)), H', ⟨by have := HK1.out; have := HK2.out; omega⟩, ⟨blk_⟩, ⟨bel_⟩⟩
                ·
                 rw [if_neg c41] at H
                 have c41b0 : ((bt a1 (ji26)) == (bt t423 x7_1)) = false := beq_eq_false_iff_ne.mpr c41
                 have c41b1 : ((bt a1 (ji26)) != (bt t423 x7_1)) = true := bne_iff_ne.mpr c41
                 obtain rfl := Option.some.inj H
                 obtain ⟨hcz43_0, hcz43_1, hcz43_2, hcz43_3, hcz43_4, hcz43_5, hcz43_6, hcz43_7, hcz43_8, hcz43_9, hcz43_10, hcz43_11, hcz43_12, hcz43_13, hcz43_14, hfz43_0, hfz43_1, hfz43_2, hfz43_3, hfz43_4, hfz43_5, hfz43_6, hfz43_7, hfz43_8, hfz43_9, hfz43_10, hfz43_11, hfz43_12, hfz43_13, hfz43_14⟩ := cells15 BK421.out
                 have p29 : 0 ≤ ((ji26) : Int) := of_decide_eq_true (by first | (with_reducible assumption) | assumption)
                 have q29 : (ji26) < (a1.size : Int) := of_decide_eq_true (by first | (with_reducible assumption) | assumption)
                 have hx29 := bt_at a1 (ji26)
                 replace p29 := eq_true p29
                 replace q29 := eq_true q29
                 have p37 : 0 ≤ ((ji26) : Int) := of_decide_eq_true (by first | (with_reducible assumption) | assumption)
                 have q37 : (ji26) < (a1.size : Int) := of_decide_eq_true (by first | (with_reducible assumption) | assumption)
                 have hx37 := bt_at a1 (ji26)
                 replace p37 := eq_true p37
                 replace q37 := eq_true q37
                 have p40 : 0 ≤ ((ji26) : Int) := of_decide_eq_true (by first | (with_reducible assumption) | assumption)
                 have q40 : (ji26) < (a1.size : Int) := of_decide_eq_true (by first | (with_reducible assumption) | assumption)
                 have hx40 := bt_at a1 (ji26)
                 replace p40 := eq_true p40
                 replace q40 := eq_true q40
                 go_wp2
                 repeat (go_quiet (fail); try go_wp2)
                 go_ret
                 exact ⟨by first | rfl | (simp [errW_none, errW_some] <;> rfl) | (simp only [← hji26]; first | rfl | (simp [errW_none, errW_some] <;> rfl)) | (simp [*, errW_none, errW_some] <;> rfl), bel_⟩
               ·
                replace c39 := Bool.eq_false_iff.mpr c39
                subst c39
                have H1 : (l19Cluster_saw.l0 k2 a1 a2 (wrap64 (x7_1 + 1)) a0_0 a0_1 a0_2 a0_3 a0_4 a0_5 a0_6 a0_7 a0_8 a0_9 l0_10 l0_11 l0_12 l0_13 l0_14) = some r := by rw [if_neg (show ¬ (false = true) by decide)] at H; exact H
                clear H
                have H := H1
                clear H1
                have H' := Sd.mk H
                clear H
                obtain ⟨hcz44_0, hcz44_1, hcz44_2, hcz44_3, hcz44_4, hcz44_5, hcz44_6, hcz44_7, hcz44_8, hcz44_9, hcz44_10, hcz44_11, hcz44_12, hcz44_13, hcz44_14, hfz44_0, hfz44_1, hfz44_2, hfz44_3, hfz44_4, hfz44_5, hfz44_6, hfz44_7, hfz44_8, hfz44_9, hfz44_10, hfz44_11, hfz44_12, hfz44_13, hfz44_14⟩ := cells15 BK421.out
                have p29 : 0 ≤ ((ji26) : Int) := of_decide_eq_true (by first | (with_reducible assumption) | assumption)
                have q29 : (ji26) < (a1.size : Int) := of_decide_eq_true (by first | (with_reducible assumption) | assumption)
                have hx29 := bt_at a1 (ji26)
                replace p29 := eq_true p29
                replace q29 := eq_true q29
                have p37 : 0 ≤ ((ji26) : Int) := of_decide_eq_true (by first | (with_reducible assumption) | assumption)
                have q37 : (ji26) < (a1.size : Int) := of_decide_eq_true (by first | (with_reducible assumption) | assumption)
                have hx37 := bt_at a1 (ji26)
                replace p37 := eq_true p37
                replace q37 := eq_true q37
                go_wp2
                repeat (go_quiet (fail); try go_wp2)
                go_roundg k2
                case measure => have := HK1.out; have := HK2.out; omega
                case rel => exact ⟨(wrap64 (x7_1 + 1)), (by first | rfl | (simp; done) | (simp [*]; done)), H', ⟨by have := HK1.out; have := HK2.out; omega⟩, ⟨blk_⟩, ⟨bel_⟩⟩
              ·
               rw [if_neg c38] at H
               have c38b0 : ((bt a1 (ji26)) == 49) = false := beq_eq_false_iff_ne.mpr c38
               have c38b1 : ((bt a1 (ji26)) != 49) = true := bne_iff_ne.mpr c38
               obtain rfl := Option.some.inj H
               obtain ⟨hcz45_0, hcz45_1, hcz45_2, hcz45_3, hcz45_4, hcz45_5, hcz45_6, hcz45_7, hcz45_8, hcz45_9, hcz45_10, hcz45_11, hcz45_12, hcz45_13, hcz45_14, hfz45_0, hfz45_1, hfz45_2, hfz45_3, hfz45_4, hfz45_5, hfz45_6, hfz45_7, hfz45_8, hfz45_9, hfz45_10, hfz45_11, hfz45_12, hfz45_13, hfz45_14⟩ := cells15 BK421.out
               have p29 : 0 ≤ ((ji26) : Int) := of_decide_eq_true (by first | (with_reducible assumption) | assumption)
               have q29 : (ji26) < (a1.size : Int) := of_decide_eq_true (by first | (with_reducible assumption) | assumption)
               have hx29 := bt_at a1 (ji26)
               replace p29 := eq_true p29
               replace q29 := eq_true q29
               have p37 : 0 ≤ ((ji26) : Int) := of_decide_eq_true (by first | (with_reducible assumption) | assumption)
               have q37 : (ji26) < (a1.size : Int) := of_decide_eq_true (by first | (with_reducible assumption) | assumption)
               have hx37 := bt_at a1 (ji26)
               replace p37 := eq_true p37
               replace q37 := eq_true q37
               go_wp2
               repeat (go_quiet (fail); try go_wp2)
               go_ret
               exact ⟨by first | rfl | (simp [errW_none, errW_some] <;> rfl) | (simp only [← hji26]; first | rfl | (simp [errW_none, errW_some] <;> rfl)) | (simp [*, errW_none, errW_some] <;> rfl), bel_⟩
            ·
             rw [if_neg c28] at H
             exact absurd H (by simp)
           ·
            rw [if_neg c27] at H
            exact absurd H (by simp)
       ·
        rw [if_neg c10] at H
        exact absurd H (by simp)
      ·
       rw [if_neg c9] at H
       exact absurd H (by simp)
     ·
      rw [if_neg c7] at H
      exact absurd H (by simp)
    ·
     rw [if_neg c6] at H
     exact absurd H (by simp)
   ·
    rw [if_neg c5] at H
    have c5b0 : decide (x7_1 < a0_0) = false := decide_eq_false c5
    clear c5
    obtain rfl := Option.some.inj H
    obtain ⟨hcz46_0, hcz46_1, hcz46_2, hcz46_3, hcz46_4, hcz46_5, hcz46_6, hcz46_7, hcz46_8, hcz46_9, hcz46_10, hcz46_11, hcz46_12, hcz46_13, hcz46_14, hfz46_0, hfz46_1, hfz46_2, hfz46_3, hfz46_4, hfz46_5, hfz46_6, hfz46_7, hfz46_8, hfz46_9, hfz46_10, hfz46_11, hfz46_12, hfz46_13, hfz46_14⟩ := cells15 BK421.out
    go_wp2
    repeat (go_quiet (fail); try go_wp2)
    go_ret
    exact ⟨by first | rfl | (simp [errW_none, errW_some] <;> rfl) | (simp [*, errW_none, errW_some] <;> rfl), bel_⟩
end Go.Proofs.Ythblnnboeikgcaa.X
