import Derived.Test.YthblnnboeikgcaaYBeatSettles4
set_option maxHeartbeats 8000000
set_option maxRecDepth 100000
namespace Go.Proofs.Ythblnnboeikgcaa.B
open Go.RowKit Go.Proofs.YthblnnboeikgcaaW.PrintWords Go.Proofs.YthblnnboeikgcaaW.PrintLast Go.Proofs.YthblnnboeikgcaaW.PrintMore
attribute [local go_sem] max2_int min2_int max_two min_two max_three min_three max_four min_four   -- for this text's walks alone
set_option linter.unusedVariables false
set_option linter.unusedSimpArgs false
mutual
def l18regular.l0 : Nat → ByteArray → Int → Int → Int → Int → Int → Int → Int → Int → Int → Int → Int → List Int → Option (Bool)
 | 0, _, _, _, _, _, _, _, _, _, _, _, _, _ => none
 | k + 1, x1, x7, v00, v01, v02, v03, v04, v05, v06, v07, v08, v09, v10 => if x7 < (x1.size : Int) then (if (wrap64 (x7 + v03)) < (x1.size : Int) then (if 0 ≤ x7 then (if 0 ≤ (wrap64 (x7 + v03)) then (l18regular.j1 k x1 x7 ((bt x1 x7) != (bt x1 (wrap64 (x7 + v03)))) v00 v01 v02 v03 v04 v05 v06 v07 v08 v09 v10) else (none)) else (none)) else (l18regular.j1 k x1 x7 false v00 v01 v02 v03 v04 v05 v06 v07 v08 v09 v10)) else (some true)
def l18regular.j1 : Nat → ByteArray → Int → Bool → Int → Int → Int → Int → Int → Int → Int → Int → Int → Int → List Int → Option (Bool)
 | 0, _, _, _, _, _, _, _, _, _, _, _, _, _, _ => none
 | k + 1, x1, x7, x35, v00, v01, v02, v03, v04, v05, v06, v07, v08, v09, v10 => if x35 = true then (some false) else (l18regular.l1 k x1 x7 0 x7 v00 v01 v02 v03 v04 v05 v06 v07 v08 v09 v10)
def l18regular.l1 : Nat → ByteArray → Int → Int → Int → Int → Int → Int → Int → Int → Int → Int → Int → Int → Int → List Int → Option (Bool)
 | 0, _, _, _, _, _, _, _, _, _, _, _, _, _, _, _ => none
 | k + 1, x1, x7, x8, x9, v00, v01, v02, v03, v04, v05, v06, v07, v08, v09, v10 => if x9 < (wrap64 (x7 + v03)) then (l18regular.j3 k x1 x7 x8 x9 (decide (x9 < (x1.size : Int))) v00 v01 v02 v03 v04 v05 v06 v07 v08 v09 v10) else (l18regular.j3 k x1 x7 x8 x9 false v00 v01 v02 v03 v04 v05 v06 v07 v08 v09 v10)
def l18regular.j3 : Nat → ByteArray → Int → Int → Int → Bool → Int → Int → Int → Int → Int → Int → Int → Int → Int → Int → List Int → Option (Bool)
 | 0, _, _, _, _, _, _, _, _, _, _, _, _, _, _, _, _ => none
 | k + 1, x1, x7, x8, x9, x48, v00, v01, v02, v03, v04, v05, v06, v07, v08, v09, v10 => if x48 = true then (if 0 ≤ x9 then (if x9 < (x1.size : Int) then (if (bt x1 x9) = 49 then (l18regular.l1 k x1 x7 (wrap64 (x8 + 1)) (wrap64 (x9 + 1)) v00 v01 v02 v03 v04 v05 v06 v07 v08 v09 v10) else (l18regular.l1 k x1 x7 x8 (wrap64 (x9 + 1)) v00 v01 v02 v03 v04 v05 v06 v07 v08 v09 v10)) else (none)) else (none)) else (if x8 > 1 then (some false) else (if (wrap64 (x7 + v03)) ≤ (x1.size : Int) then (if x8 = 1 then (l18regular.l0 k x1 (wrap64 (x7 + 1)) v00 v01 v02 v03 v04 v05 v06 v07 v08 v09 v10) else (some false)) else (l18regular.l0 k x1 (wrap64 (x7 + 1)) v00 v01 v02 v03 v04 v05 v06 v07 v08 v09 v10)))
end
def l18regular.f (k : Nat) (a0_0 : Int) (a0_1 : Int) (a0_2 : Int) (a0_3 : Int) (a0_4 : Int) (a0_5 : Int) (a0_6 : Int) (a0_7 : Int) (a0_8 : Int) (a0_9 : Int) (l0_10 : List Int) (a1 : ByteArray) (a2 : Int) : Option (Bool) := l18regular.l0 k a1 a2 a0_0 a0_1 a0_2 a0_3 a0_4 a0_5 a0_6 a0_7 a0_8 a0_9 l0_10
theorem l18regular.calls (k : Nat) (a0_0 : Int) (a0_1 : Int) (a0_2 : Int) (a0_3 : Int) (a0_4 : Int) (a0_5 : Int) (a0_6 : Int) (a0_7 : Int) (a0_8 : Int) (a0_9 : Int) (A0_10 : Option Addr) (c0_10 : Nat) (l0_10 : List Int) (a1 : ByteArray) (a2 : Int) (r : Bool) (w : World) (hr0_10 : Kd.C (Kd.int .i64) w A0_10 l0_10.length l0_10) (hc0_10 : l0_10.length ≤ c0_10) (h : l18regular.f k a0_0 a0_1 a0_2 a0_3 a0_4 a0_5 a0_6 a0_7 a0_8 a0_9 l0_10 a1 a2 = some r) :
  Calls Try.prog 51 #[.agg #[.int .i64 a0_0, .int .i64 a0_1, .int .i64 a0_2, .int .i64 a0_3, .int .i64 a0_4, .int .i64 a0_5, .int .i64 a0_6, .int .i64 a0_7, .int .i64 a0_8, .int .i64 a0_9, .slice A0_10 l0_10.length c0_10], .string a1, .int .i64 a2] w fun e w' => e = .returned (.bool r) ∧ Below w.heap.size w w' := by
 have hu24 := Try.underlying24
 have HR0_10 := Sd.mk hr0_10
 have HC0_10 := Sd.mk hc0_10
 clear hr0_10 hc0_10
 have HB := Sd.mk (Below.refl w.heap.size w)
 have H : (l18regular.l0 k a1 a2 a0_0 a0_1 a0_2 a0_3 a0_4 a0_5 a0_6 a0_7 a0_8 a0_9 l0_10) = some r := h
 clear h
 have H' := Sd.mk H
 clear H
 go_enter Try.func51, Try.ntmps51
 go_wp2_with (first | ((with_reducible refine gate_dst (N := 3) rfl ?_); (try (refine gate_guard (by rfl) ?_; dsimp only)); refine box_event ?hg (N := 3) ?hd (cs := #[.int .i64 a0_0, .int .i64 a0_1, .int .i64 a0_2, .int .i64 a0_3, .int .i64 a0_4, .int .i64 a0_5, .int .i64 a0_6, .int .i64 a0_7, .int .i64 a0_8, .int .i64 a0_9, .slice A0_10 l0_10.length c0_10]) (t := 24) ?hr ?_; (case hd => rfl); (case hg => rfl); (case hr => first | (go_simp; done) | (go_simp; rfl)); intro gb398 hg w4 hbox hb; have n0_ := Sd.mk (below_step bel_ hb); have n1_ := Sd.mk (hbox); have n2_ := Sd.mk ((by rw [hg]; exact (below_size bel_) : w.heap.size ≤ gb398)); have n3_ := Sd.mk ((by rw [hg]; exact (below_size bel_) : w.heap.size ≤ gb398)); clear HB; have HB := n0_; have BK398 := n1_; have GW398 := n2_; have GE398 := n3_; clear n0_ n1_ n2_ n3_; clear hb hbox hg))
 repeat (go_quiet (first | ((with_reducible refine gate_dst (N := 3) rfl ?_); (try (refine gate_guard (by rfl) ?_; dsimp only)); refine box_event ?hg (N := 3) ?hd (cs := #[.int .i64 a0_0, .int .i64 a0_1, .int .i64 a0_2, .int .i64 a0_3, .int .i64 a0_4, .int .i64 a0_5, .int .i64 a0_6, .int .i64 a0_7, .int .i64 a0_8, .int .i64 a0_9, .slice A0_10 l0_10.length c0_10]) (t := 24) ?hr ?_; (case hd => rfl); (case hg => rfl); (case hr => first | (go_simp; done) | (go_simp; rfl)); intro gb398 hg w4 hbox hb; have n0_ := Sd.mk (below_step bel_ hb); have n1_ := Sd.mk (hbox); have n2_ := Sd.mk ((by rw [hg]; exact (below_size bel_) : w.heap.size ≤ gb398)); have n3_ := Sd.mk ((by rw [hg]; exact (below_size bel_) : w.heap.size ≤ gb398)); clear HB; have HB := n0_; have BK398 := n1_; have GW398 := n2_; have GE398 := n3_; clear n0_ n1_ n2_ n3_; clear hb hbox hg)); try go_wp2_with (first | ((with_reducible refine gate_dst (N := 3) rfl ?_); (try (refine gate_guard (by rfl) ?_; dsimp only)); refine box_event ?hg (N := 3) ?hd (cs := #[.int .i64 a0_0, .int .i64 a0_1, .int .i64 a0_2, .int .i64 a0_3, .int .i64 a0_4, .int .i64 a0_5, .int .i64 a0_6, .int .i64 a0_7, .int .i64 a0_8, .int .i64 a0_9, .slice A0_10 l0_10.length c0_10]) (t := 24) ?hr ?_; (case hd => rfl); (case hg => rfl); (case hr => first | (go_simp; done) | (go_simp; rfl)); intro gb398 hg w4 hbox hb; have n0_ := Sd.mk (below_step bel_ hb); have n1_ := Sd.mk (hbox); have n2_ := Sd.mk ((by rw [hg]; exact (below_size bel_) : w.heap.size ≤ gb398)); have n3_ := Sd.mk ((by rw [hg]; exact (below_size bel_) : w.heap.size ≤ gb398)); clear HB; have HB := n0_; have BK398 := n1_; have GW398 := n2_; have GE398 := n3_; clear n0_ n1_ n2_ n3_; clear hb hbox hg)))
 go_loopg [7] k (fun kq v7 w' => ∃ (x7_1 : Int), v7 = .int .i64 x7_1 ∧ Sd (l18regular.l0 kq a1 x7_1 a0_0 a0_1 a0_2 a0_3 a0_4 a0_5 a0_6 a0_7 a0_8 a0_9 l0_10 = some r) ∧ Sd (kq ≤ k) ∧ Sd (w'.heap[gb398]? = some (.cells #[.int .i64 a0_0, .int .i64 a0_1, .int .i64 a0_2, .int .i64 a0_3, .int .i64 a0_4, .int .i64 a0_5, .int .i64 a0_6, .int .i64 a0_7, .int .i64 a0_8, .int .i64 a0_9, (.slice A0_10 l0_10.length c0_10)] 24 (0, 0))) ∧ Sd (Below w.heap.size w w'))
 case atStart => exact ⟨(a2), (by first | rfl | (simp; done) | (simp [*]; done)), H', ⟨Nat.le_refl _⟩, ⟨blk_⟩, ⟨bel_⟩⟩
 case round =>
  clear H'
  try clear p2
  obtain ⟨x7_1, rfl, HA, HK1, BK398, HB⟩ := hrel
  cases gk with
  | zero => exact absurd HA.out (by simp [l18regular.l0])
  | succ k1 =>
   have H := HA.out
   clear HA
   simp only [l18regular.l0] at H
   by_cases c5 : x7_1 < (a1.size : Int)
   ·
    rw [if_pos c5] at H
    have c5b0 : decide (x7_1 < (a1.size : Int)) = true := decide_eq_true c5
    clear c5
    have HC6 := Sd.mk H
    clear H
    go_upto_region 4 with (fail)
    repeat (go_quiet (fail); go_upto_region 4 with (fail))
    go_cut [35] (fun v35 wc => ∃ (kq : Nat) (x35_5 : Bool), v35 = .bool x35_5 ∧ Sd (l18regular.j1 kq a1 x7_1 x35_5 a0_0 a0_1 a0_2 a0_3 a0_4 a0_5 a0_6 a0_7 a0_8 a0_9 l0_10 = some r) ∧ Sd (kq ≤ k1) ∧ Sd (wc.heap[gb398]? = some (.cells #[.int .i64 a0_0, .int .i64 a0_1, .int .i64 a0_2, .int .i64 a0_3, .int .i64 a0_4, .int .i64 a0_5, .int .i64 a0_6, .int .i64 a0_7, .int .i64 a0_8, .int .i64 a0_9, (.slice A0_10 l0_10.length c0_10)] 24 (0, 0))) ∧ Sd (Below w.heap.size w wc))
    case first =>
     have H := HC6.out
     clear HC6
     by_cases c7 : (wrap64 (x7_1 + a0_3)) < (a1.size : Int)
     ·
      rw [if_pos c7] at H
      have c7b0 : decide ((wrap64 (x7_1 + a0_3)) < (a1.size : Int)) = true := decide_eq_true c7
      clear c7
      (first | rw [c7b0] | (simp only [i64_w, i32_w]; rw [c7b0]) | skip)
      (try rw [c7b1])
      by_cases c8 : 0 ≤ x7_1
      ·
       rw [if_pos c8] at H
       have c8b0 : decide (0 ≤ x7_1) = true := decide_eq_true c8
       clear c8
       obtain ⟨ji10, hji10⟩ : ∃ j_ : Int, (wrap64 (x7_1 + a0_3)) = j_ := ⟨_, rfl⟩
       replace H : (if 0 ≤ (ji10) then (l18regular.j1 k1 a1 x7_1 ((bt a1 x7_1) != (bt a1 (ji10))) a0_0 a0_1 a0_2 a0_3 a0_4 a0_5 a0_6 a0_7 a0_8 a0_9 l0_10) else (none)) = some r := by first | (rw [hji10] at H; exact H) | (simp only [hji10] at H ⊢; exact H)
       (try rw [hji10] at c7b0)
       have hji10w : (IntKind.i64.wrap (x7_1 + a0_3)) = ji10 := (i64_w _).trans hji10
       by_cases c11 : 0 ≤ (ji10)
       ·
        rw [if_pos c11] at H
        have c11b0 : decide (0 ≤ (ji10)) = true := decide_eq_true c11
        clear c11
        have H' := Sd.mk H
        clear H
        obtain ⟨z13_0, z13_1, z13_2, z13_3, z13_4, z13_5, z13_6, z13_7, z13_8, z13_9, z13_10, j13_0, j13_1, j13_2, j13_3, j13_4, j13_5, j13_6, j13_7, j13_8, j13_9, j13_10⟩ := cells11 BK398.out
        have p9 : 0 ≤ (x7_1 : Int) := of_decide_eq_true (by first | (with_reducible assumption) | assumption)
        have q9 : x7_1 < (a1.size : Int) := of_decide_eq_true (by first | (with_reducible assumption) | assumption)
        have hx9 := bt_at a1 x7_1
        replace p9 := eq_true p9
        replace q9 := eq_true q9
        have p12 : 0 ≤ ((ji10) : Int) := of_decide_eq_true (by first | (with_reducible assumption) | assumption)
        have q12 : (ji10) < (a1.size : Int) := of_decide_eq_true (by first | (with_reducible assumption) | assumption)
        have hx12 := bt_at a1 (ji10)
        replace p12 := eq_true p12
        replace q12 := eq_true q12
        go_wp2
        repeat (go_quiet (fail); try go_wp2)
        go_meet
        case rel => exact ⟨_, (((bt a1 x7_1) != (bt a1 (ji10)))), (by first | rfl | (simp; done) | (simp only [← hji10] <;> (first | rfl | simp)) | (simp [*]; done)), H', ⟨by have := HK1.out; first | omega | exact Nat.le_refl _⟩, ⟨blk_⟩, ⟨bel_⟩⟩
       ·
        rw [if_neg c11] at H
        exact absurd H (by simp)
      ·
       rw [if_neg c8] at H
       exact absurd H (by simp)
     ·
      rw [if_neg c7] at H
      have c7b0 : decide ((wrap64 (x7_1 + a0_3)) < (a1.size : Int)) = false := decide_eq_false c7
      (try rw [hji10] at c7b0)
      clear c7
      (first | rw [c7b0] | (simp only [i64_w, i32_w]; rw [c7b0]) | skip)
      (try rw [c7b1])
      have H' := Sd.mk H
      clear H
      obtain ⟨z14_0, z14_1, z14_2, z14_3, z14_4, z14_5, z14_6, z14_7, z14_8, z14_9, z14_10, j14_0, j14_1, j14_2, j14_3, j14_4, j14_5, j14_6, j14_7, j14_8, j14_9, j14_10⟩ := cells11 BK398.out
      go_wp2
      repeat (go_quiet (fail); try go_wp2)
      go_meet
      case rel => exact ⟨_, (false), (by first | rfl | (simp; done) | (simp [*]; done)), H', ⟨by have := HK1.out; first | omega | exact Nat.le_refl _⟩, ⟨blk_⟩, ⟨bel_⟩⟩
    case rest =>
     clear HC6
     try clear c1
     try clear p1
     try clear q1
     try clear hx1
     try clear p2
     try clear c5
     try clear c5b0
     try clear p6
     try clear c7
     try clear c7b0
     try clear c8
     try clear c8b0
     try clear p9
     try clear q9
     try clear hx9
     try clear c11
     try clear c11b0
     try clear p12
     try clear q12
     try clear hx12
     try clear z13_0 z13_1 z13_10 z13_2 z13_3 z13_4 z13_5 z13_6 z13_7 z13_8 z13_9
     try clear z14_0 z14_1 z14_10 z14_2 z14_3 z14_4 z14_5 z14_6 z14_7 z14_8 z14_9
     try clear j13_0 j13_1 j13_10 j13_2 j13_3 j13_4 j13_5 j13_6 j13_7 j13_8 j13_9
     try clear j14_0 j14_1 j14_10 j14_2 j14_3 j14_4 j14_5 j14_6 j14_7 j14_8 j14_9
     try clear p12
     try clear p2
     try clear p9
     try clear q12
     try clear q9
     obtain ⟨kq, x35_5, rfl, HA, HJ5, BK398, HB⟩ := hcut
     cases kq with
     | zero => exact absurd HA.out (by simp [l18regular.j1])
     | succ kj5 =>
      have H := HA.out
      clear HA
      simp only [l18regular.j1] at H
      by_cases c15 : x35_5 = true
      ·
       subst c15
       have H1 : (some false) = some r := by rw [if_pos rfl] at H; exact H
       clear H
       have H := H1
       clear H1
       obtain rfl := Option.some.inj H
       go_wp2
       repeat (go_quiet (fail); try go_wp2)
       go_ret
       exact ⟨by first | rfl | (simp [errW_none, errW_some] <;> rfl) | (simp [*, errW_none, errW_some] <;> rfl), bel_⟩
      ·
       replace c15 := Bool.eq_false_iff.mpr c15
       subst c15
       have H1 : (l18regular.l1 kj5 a1 x7_1 0 x7_1 a0_0 a0_1 a0_2 a0_3 a0_4 a0_5 a0_6 a0_7 a0_8 a0_9 l0_10) = some r := by rw [if_neg (show ¬ (false = true) by decide)] at H; exact H
       clear H
       have H := H1
       clear H1
       have H' := Sd.mk H
       clear H
       go_wp2
       repeat (go_quiet (fail); try go_wp2)
       go_loopg [8, 9] kj5 (fun kq v8 v9 w' => ∃ (x8_3 : Int) (x9_3 : Int), v8 = .int .i64 x8_3 ∧ v9 = .int .i64 x9_3 ∧ Sd (l18regular.l1 kq a1 x7_1 x8_3 x9_3 a0_0 a0_1 a0_2 a0_3 a0_4 a0_5 a0_6 a0_7 a0_8 a0_9 l0_10 = some r) ∧ Sd (kq ≤ kj5) ∧ Sd (w'.heap[gb398]? = some (.cells #[.int .i64 a0_0, .int .i64 a0_1, .int .i64 a0_2, .int .i64 a0_3, .int .i64 a0_4, .int .i64 a0_5, .int .i64 a0_6, .int .i64 a0_7, .int .i64 a0_8, .int .i64 a0_9, (.slice A0_10 l0_10.length c0_10)] 24 (0, 0))) ∧ Sd (Below w.heap.size w w'))
       case atStart => exact ⟨(0), (x7_1), (by first | rfl | (simp; done) | (simp [*]; done)), (by first | rfl | (simp; done) | (simp [*]; done)), H', ⟨Nat.le_refl _⟩, ⟨blk_⟩, ⟨bel_⟩⟩
       case round =>
        clear H'
        try clear c1
        try clear p1
        try clear q1
        try clear hx1
        try clear p2
        try clear c5
        try clear c5b0
        try clear p6
        try clear c7
        try clear c7b0
        try clear c8
        try clear c8b0
        try clear p9
        try clear q9
        try clear hx9
        try clear c11
        try clear c11b0
        try clear p12
        try clear q12
        try clear hx12
        try clear c15
        try clear z13_0 z13_1 z13_10 z13_2 z13_3 z13_4 z13_5 z13_6 z13_7 z13_8 z13_9
        try clear z14_0 z14_1 z14_10 z14_2 z14_3 z14_4 z14_5 z14_6 z14_7 z14_8 z14_9
        try clear j13_0 j13_1 j13_10 j13_2 j13_3 j13_4 j13_5 j13_6 j13_7 j13_8 j13_9
        try clear j14_0 j14_1 j14_10 j14_2 j14_3 j14_4 j14_5 j14_6 j14_7 j14_8 j14_9
        try clear p1
        try clear p12
        try clear p2
        try clear p6
        try clear p9
        try clear q1
        try clear q12
        try clear q9
        obtain ⟨x8_3, x9_3, rfl, rfl, HA, HK3, BK398, HB⟩ := hrel
        cases gk with
        | zero => exact absurd HA.out (by simp [l18regular.l1])
        | succ k3 =>
         have H := HA.out
         clear HA
         simp only [l18regular.l1] at H
         have HC16 := Sd.mk H
         clear H
         go_upto_region 8 with (fail)
         repeat (go_quiet (fail); go_upto_region 8 with (fail))
         go_cut [48] (fun v48 wc => ∃ (kq : Nat) (x48_15 : Bool), v48 = .bool x48_15 ∧ Sd (l18regular.j3 kq a1 x7_1 x8_3 x9_3 x48_15 a0_0 a0_1 a0_2 a0_3 a0_4 a0_5 a0_6 a0_7 a0_8 a0_9 l0_10 = some r) ∧ Sd (kq ≤ k3) ∧ Sd (wc.heap[gb398]? = some (.cells #[.int .i64 a0_0, .int .i64 a0_1, .int .i64 a0_2, .int .i64 a0_3, .int .i64 a0_4, .int .i64 a0_5, .int .i64 a0_6, .int .i64 a0_7, .int .i64 a0_8, .int .i64 a0_9, (.slice A0_10 l0_10.length c0_10)] 24 (0, 0))) ∧ Sd (Below w.heap.size w wc))
         case first =>
          have H := HC16.out
          clear HC16
          by_cases c17 : x9_3 < (wrap64 (x7_1 + a0_3))
          ·
           rw [if_pos c17] at H
           have c17b0 : decide (x9_3 < (wrap64 (x7_1 + a0_3))) = true := decide_eq_true c17
           (try rw [hji10] at c17b0)
           clear c17
           (first | rw [c17b0] | (simp only [i64_w, i32_w]; rw [c17b0]) | skip)
           (try rw [c17b1])
           have H' := Sd.mk H
           clear H
           obtain ⟨z18_0, z18_1, z18_2, z18_3, z18_4, z18_5, z18_6, z18_7, z18_8, z18_9, z18_10, j18_0, j18_1, j18_2, j18_3, j18_4, j18_5, j18_6, j18_7, j18_8, j18_9, j18_10⟩ := cells11 BK398.out
           go_wp2
           repeat (go_quiet (fail); try go_wp2)
           go_meet
           case rel => exact ⟨_, (decide (x9_3 < (a1.size : Int))), (by first | rfl | (simp; done) | (simp [*]; done)), H', ⟨by have := HK1.out; have := HJ5.out; have := HK3.out; first | omega | exact Nat.le_refl _⟩, ⟨blk_⟩, ⟨bel_⟩⟩
          ·
           rw [if_neg c17] at H
           have c17b0 : decide (x9_3 < (wrap64 (x7_1 + a0_3))) = false := decide_eq_false c17
           (try rw [hji10] at c17b0)
           clear c17
           (first | rw [c17b0] | (simp only [i64_w, i32_w]; rw [c17b0]) | skip)
           (try rw [c17b1])
           have H' := Sd.mk H
           clear H
           obtain ⟨z19_0, z19_1, z19_2, z19_3, z19_4, z19_5, z19_6, z19_7, z19_8, z19_9, z19_10, j19_0, j19_1, j19_2, j19_3, j19_4, j19_5, j19_6, j19_7, j19_8, j19_9, j19_10⟩ := cells11 BK398.out
           go_wp2
           repeat (go_quiet (fail); try go_wp2)
           go_meet
           case rel => exact ⟨_, (false), (by first | rfl | (simp; done) | (simp [*]; done)), H', ⟨by have := HK1.out; have := HJ5.out; have := HK3.out; first | omega | exact Nat.le_refl _⟩, ⟨blk_⟩, ⟨bel_⟩⟩
         case rest =>
          clear HC16
          try clear c1
          try clear p1
          try clear q1
          try clear hx1
          try clear p2
          try clear c5
          try clear c5b0
          try clear p6
          try clear c7
          try clear c7b0
          try clear c8
          try clear c8b0
          try clear p9
          try clear q9
          try clear hx9
          try clear c11
          try clear c11b0
          try clear p12
          try clear q12
          try clear hx12
          try clear c15
          try clear c17
          try clear c17b0
          try clear z13_0 z13_1 z13_10 z13_2 z13_3 z13_4 z13_5 z13_6 z13_7 z13_8 z13_9
          try clear z14_0 z14_1 z14_10 z14_2 z14_3 z14_4 z14_5 z14_6 z14_7 z14_8 z14_9
          try clear z18_0 z18_1 z18_10 z18_2 z18_3 z18_4 z18_5 z18_6 z18_7 z18_8 z18_9
          try clear z19_0 z19_1 z19_10 z19_2 z19_3 z19_4 z19_5 z19_6 z19_7 z19_8 z19_9
          try clear j13_0 j13_1 j13_10 j13_2 j13_3 j13_4 j13_5 j13_6 j13_7 j13_8 j13_9
          try clear j14_0 j14_1 j14_10 j14_2 j14_3 j14_4 j14_5 j14_6 j14_7 j14_8 j14_9
          try clear j18_0 j18_1 j18_10 j18_2 j18_3 j18_4 j18_5 j18_6 j18_7 j18_8 j18_9
          try clear j19_0 j19_1 j19_10 j19_2 j19_3 j19_4 j19_5 j19_6 j19_7 j19_8 j19_9
          try clear p1
          try clear p12
          try clear p2
          try clear p6
          try clear p9
          try clear q1
          try clear q12
          try clear q9
          obtain ⟨kq, x48_15, rfl, HA, HJ15, BK398, HB⟩ := hcut
          cases kq with
          | zero => exact absurd HA.out (by simp [l18regular.j3])
          | succ kj15 =>
           have H := HA.out
           clear HA
           simp only [l18regular.j3] at H
           by_cases c20 : x48_15 = true
           ·
            subst c20
            have H1 : (if 0 ≤ x9_3 then (if x9_3 < (a1.size : Int) then (if (bt a1 x9_3) = 49 then (l18regular.l1 kj15 a1 x7_1 (wrap64 (x8_3 + 1)) (wrap64 (x9_3 + 1)) a0_0 a0_1 a0_2 a0_3 a0_4 a0_5 a0_6 a0_7 a0_8 a0_9 l0_10) else (l18regular.l1 kj15 a1 x7_1 x8_3 (wrap64 (x9_3 + 1)) a0_0 a0_1 a0_2 a0_3 a0_4 a0_5 a0_6 a0_7 a0_8 a0_9 l0_10)) else (none)) else (none)) = some r := by rw [if_pos rfl] at H; exact H
            clear H
            have H := H1
            clear H1
            by_cases c21 : 0 ≤ x9_3
            ·
             rw [if_pos c21] at H
             have c21b0 : decide (0 ≤ x9_3) = true := decide_eq_true c21
             clear c21
             by_cases c22 : x9_3 < (a1.size : Int)
             ·
              rw [if_pos c22] at H
              have c22b0 : decide (x9_3 < (a1.size : Int)) = true := decide_eq_true c22
              clear c22
              by_cases c24 : (bt a1 x9_3) = 49
              ·
               rw [if_pos c24] at H
               have c24b0 : ((bt a1 x9_3) == 49) = true := beq_iff_eq.mpr c24
               have c24b1 : ((bt a1 x9_3) != 49) = false := bne_eq_false_iff_eq.mpr c24
               clear c24
               have H' := Sd.mk H
               clear H
               have p23 : 0 ≤ (x9_3 : Int) := of_decide_eq_true (by first | (with_reducible assumption) | assumption)
               have q23 : x9_3 < (a1.size : Int) := of_decide_eq_true (by first | (with_reducible assumption) | assumption)
               have hx23 := bt_at a1 x9_3
               replace p23 := eq_true p23
               replace q23 := eq_true q23
               go_wp2
               repeat (go_quiet (fail); try go_wp2)
               go_roundg kj15
               case measure => have := HK1.out; have := HJ5.out; have := HK3.out; have := HJ15.out; omega
               case rel => exact ⟨(wrap64 (x8_3 + 1)), (wrap64 (x9_3 + 1)), (by first | rfl | (simp; done) | (simp [*]; done)), (by first | rfl | (simp; done) | (simp [*]; done)), H', ⟨by have := HK1.out; have := HJ5.out; have := HK3.out; have := HJ15.out; omega⟩, ⟨blk_⟩, ⟨bel_⟩⟩
              ·
               rw [if_neg c24] at H
               have c24b0 : ((bt a1 x9_3) == 49) = false := beq_eq_false_iff_ne.mpr c24
               have c24b1 : ((bt a1 x9_3) != 49) = true := bne_iff_ne.mpr c24
               have H' := Sd.mk H
               clear H
               have p23 : 0 ≤ (x9_3 : Int) := of_decide_eq_true (by first | (with_reducible assumption) | assumption)
               have q23 : x9_3 < (a1.size : Int) := of_decide_eq_true (by first | (with_reducible assumption) | assumption)
               have hx23 := bt_at a1 x9_3
               replace p23 := eq_true p23
               replace q23 := eq_true q23
               go_wp2
               repeat (go_quiet (fail); try go_wp2)
               go_roundg kj15
               case measure => have := HK1.out; have := HJ5.out; have := HK3.out; have := HJ15.out; omega
               case rel => exact ⟨(x8_3), (wrap64 (x9_3 + 1)), (by first | rfl | (simp; done) | (simp [*]; done)), (by first | rfl | (simp; done) | (simp [*]; done)), H', ⟨by have := HK1.out; have := HJ5.out; have := HK3.out; have := HJ15.out; omega⟩, ⟨blk_⟩, ⟨bel_⟩⟩
             ·
              rw [if_neg c22] at H
              exact absurd H (by simp)
            ·
             rw [if_neg c21] at H
             exact absurd H (by simp)
           ·
            replace c20 := Bool.eq_false_iff.mpr c20
            subst c20
            have H1 : (if x8_3 > 1 then (some false) else (if (wrap64 (x7_1 + a0_3)) ≤ (a1.size : Int) then (if x8_3 = 1 then (l18regular.l0 kj15 a1 (wrap64 (x7_1 + 1)) a0_0 a0_1 a0_2 a0_3 a0_4 a0_5 a0_6 a0_7 a0_8 a0_9 l0_10) else (some false)) else (l18regular.l0 kj15 a1 (wrap64 (x7_1 + 1)) a0_0 a0_1 a0_2 a0_3 a0_4 a0_5 a0_6 a0_7 a0_8 a0_9 l0_10))) = some r := by rw [if_neg (show ¬ (false = true) by decide)] at H; exact H
            clear H
            have H := H1
            clear H1
            by_cases c25 : x8_3 > 1
            ·
             rw [if_pos c25] at H
             have c25b0 : decide (1 < x8_3) = true := decide_eq_true c25
             clear c25
             obtain rfl := Option.some.inj H
             go_wp2
             repeat (go_quiet (fail); try go_wp2)
             go_ret
             exact ⟨by first | rfl | (simp [errW_none, errW_some] <;> rfl) | (simp [*, errW_none, errW_some] <;> rfl), bel_⟩
            ·
             rw [if_neg c25] at H
             have c25b0 : decide (1 < x8_3) = false := decide_eq_false c25
             clear c25
             by_cases c26 : (wrap64 (x7_1 + a0_3)) ≤ (a1.size : Int)
             ·
              rw [if_pos c26] at H
              have c26b0 : decide ((wrap64 (x7_1 + a0_3)) ≤ (a1.size : Int)) = true := decide_eq_true c26
              (try rw [hji10] at c26b0)
              clear c26
              by_cases c27 : x8_3 = 1
              ·
               rw [if_pos c27] at H
               have c27b0 : (x8_3 == 1) = true := beq_iff_eq.mpr c27
               have c27b1 : (x8_3 != 1) = false := bne_eq_false_iff_eq.mpr c27
               clear c27
               have H' := Sd.mk H
               clear H
               obtain ⟨z28_0, z28_1, z28_2, z28_3, z28_4, z28_5, z28_6, z28_7, z28_8, z28_9, z28_10, j28_0, j28_1, j28_2, j28_3, j28_4, j28_5, j28_6, j28_7, j28_8, j28_9, j28_10⟩ := cells11 BK398.out
               go_wp2
               repeat (go_quiet (fail); try go_wp2)
               go_roundg kj15
               case measure => have := HK1.out; have := HJ5.out; have := HK3.out; have := HJ15.out; omega
               case rel => exact ⟨(wrap64 (x7_1 + 1)), (by first | rfl | (simp; done) | (simp [*]; done)), H', ⟨by have := HK1.out; have := HJ5.out; have := HK3.out; have := HJ15.out; omega⟩, ⟨blk_⟩, ⟨bel_⟩⟩
              ·
               rw [if_neg c27] at H
               have c27b0 : (x8_3 == 1) = false := beq_eq_false_iff_ne.mpr c27
               have c27b1 : (x8_3 != 1) = true := bne_iff_ne.mpr c27
               obtain rfl := Option.some.inj H
               obtain ⟨z29_0, z29_1, z29_2, z29_3, z29_4, z29_5, z29_6, z29_7, z29_8, z29_9, z29_10, j29_0, j29_1, j29_2, j29_3, j29_4, j29_5, j29_6, j29_7, j29_8, j29_9, j29_10⟩ := cells11 BK398.out
               go_wp2
               repeat (go_quiet (fail); try go_wp2)
               go_ret
               exact ⟨by first | rfl | (simp [errW_none, errW_some] <;> rfl) | (simp [*, errW_none, errW_some] <;> rfl), bel_⟩
             ·
              rw [if_neg c26] at H
              have c26b0 : decide ((wrap64 (x7_1 + a0_3)) ≤ (a1.size : Int)) = false := decide_eq_false c26
              (try rw [hji10] at c26b0)
              clear c26
              have H' := Sd.mk H
              clear H
              obtain ⟨z30_0, z30_1, z30_2, z30_3, z30_4, z30_5, z30_6, z30_7, z30_8, z30_9, z30_10, j30_0, j30_1, j30_2, j30_3, j30_4, j30_5, j30_6, j30_7, j30_8, j30_9, j30_10⟩ := cells11 BK398.out
              go_wp2
              repeat (go_quiet (fail); try go_wp2)
              go_roundg kj15
              case measure => have := HK1.out; have := HJ5.out; have := HK3.out; have := HJ15.out; omega
              case rel => exact ⟨(wrap64 (x7_1 + 1)), (by first | rfl | (simp; done) | (simp [*]; done)), H', ⟨by have := HK1.out; have := HJ5.out; have := HK3.out; have := HJ15.out; omega⟩, ⟨blk_⟩, ⟨bel_⟩⟩
   ·
    rw [if_neg c5] at H
    have c5b0 : decide (x7_1 < (a1.size : Int)) = false := decide_eq_false c5
    clear c5
    obtain rfl := Option.some.inj H
    go_wp2
    repeat (go_quiet (fail); try go_wp2)
    go_ret
    exact ⟨by first | rfl | (simp [errW_none, errW_some] <;> rfl) | (simp [*, errW_none, errW_some] <;> rfl), bel_⟩
end Go.Proofs.Ythblnnboeikgcaa.B
