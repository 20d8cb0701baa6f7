import Derived.Test.YtbfnkdgjcpcmbaaYWireWrites25
set_option maxHeartbeats 8000000
set_option maxRecDepth 100000
namespace Go.Proofs.Ytbfnkdgjcpcmbaa.X
open Go.RowKit Go.Proofs.YtbfnkdgjcpcmbaaW.PrintWords Go.Proofs.YtbfnkdgjcpcmbaaW.PrintLast Go.Proofs.YtbfnkdgjcpcmbaaW.PrintMore
attribute [local go_sem] max2_int min2_int max_two min_two max_three min_three max_four min_four   -- for this text's walks alone
set_option linter.unusedVariables false
set_option linter.unusedSimpArgs false
mutual
def r03Plain.j0 : Nat → Bool → Int → Int → Int → Int → Int → Int → Int → Int → Int → Int → List Int → Option (Int)
 | 0, _, _, _, _, _, _, _, _, _, _, _, _ => none
 | k + 1, x20, v00, v01, v02, v03, v04, v05, v06, v07, v08, v09, v10 => if x20 = true then (some 7) else ((r03within.f v02 1 4).bind fun t154 => (if t154 = true then ((r03within.f v03 (wrap64 ((wrap64 ((wrap64 (6 * (wrap64 (v01 + 1)))) * v02)) + 1)) 400).bind fun t155 => (if t155 = true then ((r03within.f v04 1 64).bind fun t156 => (if t156 = true then ((r03within.f v05 0 (wrap64 (v04 - 1))).bind fun t157 => (if t157 = true then ((r03within.f v06 0 30000).bind fun t158 => (if t158 = true then ((r03within.f v07 1 30000).bind fun t159 => (if t159 = true then ((r03within.f v08 2 250).bind fun t160 => (if t160 = true then ((r03within.f v09 1 100).bind fun t161 => (r03Plain.j1 k (!t161) v00 v01 v02 v03 v04 v05 v06 v07 v08 v09 v10)) else (r03Plain.j1 k true v00 v01 v02 v03 v04 v05 v06 v07 v08 v09 v10))) else (r03Plain.j1 k true v00 v01 v02 v03 v04 v05 v06 v07 v08 v09 v10))) else (r03Plain.j1 k true v00 v01 v02 v03 v04 v05 v06 v07 v08 v09 v10))) else (r03Plain.j1 k true v00 v01 v02 v03 v04 v05 v06 v07 v08 v09 v10))) else (r03Plain.j1 k true v00 v01 v02 v03 v04 v05 v06 v07 v08 v09 v10))) else (r03Plain.j1 k true v00 v01 v02 v03 v04 v05 v06 v07 v08 v09 v10))) else (some 10)))
def r03Plain.j1 : Nat → Bool → Int → Int → Int → Int → Int → Int → Int → Int → Int → Int → List Int → Option (Int)
 | 0, _, _, _, _, _, _, _, _, _, _, _, _ => none
 | k + 1, x75, v00, v01, v02, v03, v04, v05, v06, v07, v08, v09, v10 => if x75 = true then (some 8) else ((r03within.f (v10.length : Int) 1 32).bind fun t162 => (if t162 = true then ((r03owned.f k v00 v01 v02 v03 v04 v05 v06 v07 v08 v09 v10).bind fun t163 => (if t163 = true then (some 0) else (some 11))) else (some 11)))
end
def r03Plain.f (k : Nat) (a0_0 : Int) (a0_1 : Int) (a0_2 : Int) (a0_3 : Int) (a0_4 : Int) (a0_5 : Int) (a0_6 : Int) (a0_7 : Int) (a0_8 : Int) (a0_9 : Int) (l0_10 : List Int) : Option (Int) := (r03within.f a0_0 4 13).bind fun t152 => (if t152 = true then ((r03within.f a0_1 0 4).bind fun t153 => (if t153 = true then (r03Plain.j0 k (decide (a0_0 ≤ (wrap64 (3 * a0_1)))) a0_0 a0_1 a0_2 a0_3 a0_4 a0_5 a0_6 a0_7 a0_8 a0_9 l0_10) else (r03Plain.j0 k true a0_0 a0_1 a0_2 a0_3 a0_4 a0_5 a0_6 a0_7 a0_8 a0_9 l0_10))) else (r03Plain.j0 k true a0_0 a0_1 a0_2 a0_3 a0_4 a0_5 a0_6 a0_7 a0_8 a0_9 l0_10))
theorem r03Plain.calls (k : Nat) (a0_0 : Int) (a0_1 : Int) (a0_2 : Int) (a0_3 : Int) (a0_4 : Int) (a0_5 : Int) (a0_6 : Int) (a0_7 : Int) (a0_8 : Int) (a0_9 : Int) (A0_10 : Option Addr) (c0_10 : Nat) (l0_10 : List Int) (r : Int) (w : World) (hr0_10 : Kd.C (Kd.int .i64) w A0_10 l0_10.length l0_10) (hc0_10 : l0_10.length ≤ c0_10) (h : r03Plain.f k a0_0 a0_1 a0_2 a0_3 a0_4 a0_5 a0_6 a0_7 a0_8 a0_9 l0_10 = some r) :
  Calls Try.prog 39 #[.agg #[.int .i64 a0_0, .int .i64 a0_1, .int .i64 a0_2, .int .i64 a0_3, .int .i64 a0_4, .int .i64 a0_5, .int .i64 a0_6, .int .i64 a0_7, .int .i64 a0_8, .int .i64 a0_9, .slice A0_10 l0_10.length c0_10]] w fun e w' => e = .returned (.int .i64 r) ∧ Below w.heap.size w w' := by
 have hu24 := Try.underlying24
 have HR0_10 := Sd.mk hr0_10
 have HC0_10 := Sd.mk hc0_10
 clear hr0_10 hc0_10
 have HB := Sd.mk (Below.refl w.heap.size w)
 have H : ((r03within.f a0_0 4 13).bind fun t152 => (if t152 = true then ((r03within.f a0_1 0 4).bind fun t153 => (if t153 = true then (r03Plain.j0 k (decide (a0_0 ≤ (wrap64 (3 * a0_1)))) a0_0 a0_1 a0_2 a0_3 a0_4 a0_5 a0_6 a0_7 a0_8 a0_9 l0_10) else (r03Plain.j0 k true a0_0 a0_1 a0_2 a0_3 a0_4 a0_5 a0_6 a0_7 a0_8 a0_9 l0_10))) else (r03Plain.j0 k true a0_0 a0_1 a0_2 a0_3 a0_4 a0_5 a0_6 a0_7 a0_8 a0_9 l0_10))) = some r := h
 clear h
 have HC2 := Sd.mk H
 clear H
 go_enter Try.func39, Try.ntmps39
 go_upto_region 1 with (first | ((with_reducible refine gate_dst (N := 1) rfl ?_); refine box_event ?hg (N := 1) ?hd (cs := #[.int .i64 a0_0, .int .i64 a0_1, .int .i64 a0_2, .int .i64 a0_3, .int .i64 a0_4, .int .i64 a0_5, .int .i64 a0_6, .int .i64 a0_7, .int .i64 a0_8, .int .i64 a0_9, .slice A0_10 l0_10.length c0_10]) (t := 24) ?hr ?_; (case hd => rfl); (case hg => rfl); (case hr => first | (go_simp; done) | (go_simp; rfl)); intro gb151 hg w3 hbox hb; have n0_ := Sd.mk (below_step bel_ hb); have n1_ := Sd.mk (hbox); have n2_ := Sd.mk ((by rw [hg]; exact (below_size bel_) : w.heap.size ≤ gb151)); have n3_ := Sd.mk ((by rw [hg]; exact (below_size bel_) : w.heap.size ≤ gb151)); clear HB; have HB := n0_; have BK151 := n1_; have GW151 := n2_; have GE151 := n3_; clear n0_ n1_ n2_ n3_; clear hb hbox hg))
 (try simp only [Act.put, List.setIfInBounds_toArray, List.set_cons_zero, List.set_cons_succ])
 go_cut [20] (fun v20 wc => ∃ (kq : Nat) (x20_1 : Bool), v20 = .bool x20_1 ∧ Sd (r03Plain.j0 kq x20_1 a0_0 a0_1 a0_2 a0_3 a0_4 a0_5 a0_6 a0_7 a0_8 a0_9 l0_10 = some r) ∧ Sd (kq ≤ k) ∧ Sd (wc.heap[gb151]? = some (.cells #[.int .i64 a0_0, .int .i64 a0_1, .int .i64 a0_2, .int .i64 a0_3, .int .i64 a0_4, .int .i64 a0_5, .int .i64 a0_6, .int .i64 a0_7, .int .i64 a0_8, .int .i64 a0_9, (.slice A0_10 l0_10.length c0_10)] 24 (0, 0))) ∧ Sd (Below w.heap.size w wc))
 case first =>
  have H := HC2.out
  clear HC2
  replace H := Option.bind_eq_some_iff.mp H
  obtain ⟨t152, A40, H⟩ := H
  replace H : (if t152 = true then ((r03within.f a0_1 0 4).bind fun t153 => (if t153 = true then (r03Plain.j0 k (decide (a0_0 ≤ (wrap64 (3 * a0_1)))) a0_0 a0_1 a0_2 a0_3 a0_4 a0_5 a0_6 a0_7 a0_8 a0_9 l0_10) else (r03Plain.j0 k true a0_0 a0_1 a0_2 a0_3 a0_4 a0_5 a0_6 a0_7 a0_8 a0_9 l0_10))) else (r03Plain.j0 k true a0_0 a0_1 a0_2 a0_3 a0_4 a0_5 a0_6 a0_7 a0_8 a0_9 l0_10)) = some r := H
  have A4 := Sd.mk A40
  clear A40
  by_cases c5 : t152 = true
  ·
   subst c5
   have H1 : ((r03within.f a0_1 0 4).bind fun t153 => (if t153 = true then (r03Plain.j0 k (decide (a0_0 ≤ (wrap64 (3 * a0_1)))) a0_0 a0_1 a0_2 a0_3 a0_4 a0_5 a0_6 a0_7 a0_8 a0_9 l0_10) else (r03Plain.j0 k true a0_0 a0_1 a0_2 a0_3 a0_4 a0_5 a0_6 a0_7 a0_8 a0_9 l0_10))) = some r := by rw [if_pos rfl] at H; exact H
   clear H
   have H := H1
   clear H1
   replace H := Option.bind_eq_some_iff.mp H
   obtain ⟨t153, A60, H⟩ := H
   replace H : (if t153 = true then (r03Plain.j0 k (decide (a0_0 ≤ (wrap64 (3 * a0_1)))) a0_0 a0_1 a0_2 a0_3 a0_4 a0_5 a0_6 a0_7 a0_8 a0_9 l0_10) else (r03Plain.j0 k true a0_0 a0_1 a0_2 a0_3 a0_4 a0_5 a0_6 a0_7 a0_8 a0_9 l0_10)) = some r := H
   have A6 := Sd.mk A60
   clear A60
   by_cases c7 : t153 = true
   ·
    subst c7
    have H1 : (r03Plain.j0 k (decide (a0_0 ≤ (wrap64 (3 * a0_1)))) a0_0 a0_1 a0_2 a0_3 a0_4 a0_5 a0_6 a0_7 a0_8 a0_9 l0_10) = some r := by rw [if_pos rfl] at H; exact H
    clear H
    have H := H1
    clear H1
    have H' := Sd.mk H
    clear H
    obtain ⟨z8_0, z8_1, z8_2, z8_3, z8_4, z8_5, z8_6, z8_7, z8_8, z8_9, z8_10, j8_0, j8_1, j8_2, j8_3, j8_4, j8_5, j8_6, j8_7, j8_8, j8_9, j8_10⟩ := cells11 BK151.out
    go_wp2_with (first | ((with_reducible refine gate_callee (f := 64) rfl ?_); refine goesL_ (some 5) rfl rfl Try.func64 (by kernel_rfl) rfl #[.int .i64 a0_0, .int .i64 4, .int .i64 13] rfl (by (try simp only [List.map_toArray, List.map_cons, List.map_nil]); first | done | rfl | (simp only [List.length_drop, List.length_take]; rfl)) ?_; (with_reducible refine (r03within.calls a0_0 4 13 true _ A4.out).mono ?_); rintro e w' ⟨rfl, ⟨nd, rfl⟩⟩; refine ⟨_, rfl, ?_⟩) | (go_at_call 64; (with_reducible refine (r03within.calls a0_1 0 4 true _ A6.out).mono ?_); rintro e w' ⟨rfl, ⟨nd, rfl⟩⟩))
    go_meet
    case rel => exact ⟨_, (decide (a0_0 ≤ (wrap64 (3 * a0_1)))), (by first | rfl | (simp; done) | (simp [*]; done)), H', ⟨by first | omega | exact Nat.le_refl _⟩, ⟨blk_⟩, ⟨bel_⟩⟩
   ·
    replace c7 := Bool.eq_false_iff.mpr c7
    subst c7
    have H1 : (r03Plain.j0 k true a0_0 a0_1 a0_2 a0_3 a0_4 a0_5 a0_6 a0_7 a0_8 a0_9 l0_10) = some r := by rw [if_neg (show ¬ (false = true) by decide)] at H; exact H
    clear H
    have H := H1
    clear H1
    have H' := Sd.mk H
    clear H
    obtain ⟨z9_0, z9_1, z9_2, z9_3, z9_4, z9_5, z9_6, z9_7, z9_8, z9_9, z9_10, j9_0, j9_1, j9_2, j9_3, j9_4, j9_5, j9_6, j9_7, j9_8, j9_9, j9_10⟩ := cells11 BK151.out
    go_wp2_with (first | ((with_reducible refine gate_callee (f := 64) rfl ?_); refine goesL_ (some 5) rfl rfl Try.func64 (by kernel_rfl) rfl #[.int .i64 a0_0, .int .i64 4, .int .i64 13] rfl (by (try simp only [List.map_toArray, List.map_cons, List.map_nil]); first | done | rfl | (simp only [List.length_drop, List.length_take]; rfl)) ?_; (with_reducible refine (r03within.calls a0_0 4 13 true _ A4.out).mono ?_); rintro e w' ⟨rfl, ⟨nd, rfl⟩⟩; refine ⟨_, rfl, ?_⟩) | (go_at_call 64; (with_reducible refine (r03within.calls a0_1 0 4 false _ A6.out).mono ?_); rintro e w' ⟨rfl, ⟨nd, rfl⟩⟩))
    go_meet
    case rel => exact ⟨_, (true), (by first | rfl | (simp; done) | (simp [*]; done)), H', ⟨by first | omega | exact Nat.le_refl _⟩, ⟨blk_⟩, ⟨bel_⟩⟩
  ·
   replace c5 := Bool.eq_false_iff.mpr c5
   subst c5
   have H1 : (r03Plain.j0 k true a0_0 a0_1 a0_2 a0_3 a0_4 a0_5 a0_6 a0_7 a0_8 a0_9 l0_10) = some r := by rw [if_neg (show ¬ (false = true) by decide)] at H; exact H
   clear H
   have H := H1
   clear H1
   have H' := Sd.mk H
   clear H
   obtain ⟨z10_0, z10_1, z10_2, z10_3, z10_4, z10_5, z10_6, z10_7, z10_8, z10_9, z10_10, j10_0, j10_1, j10_2, j10_3, j10_4, j10_5, j10_6, j10_7, j10_8, j10_9, j10_10⟩ := cells11 BK151.out
   go_wp2_with (first | ((with_reducible refine gate_callee (f := 64) rfl ?_); refine goesL_ (some 5) rfl rfl Try.func64 (by kernel_rfl) rfl #[.int .i64 a0_0, .int .i64 4, .int .i64 13] rfl (by (try simp only [List.map_toArray, List.map_cons, List.map_nil]); first | done | rfl | (simp only [List.length_drop, List.length_take]; rfl)) ?_; (with_reducible refine (r03within.calls a0_0 4 13 false _ A4.out).mono ?_); rintro e w' ⟨rfl, ⟨nd, rfl⟩⟩; refine ⟨_, rfl, ?_⟩))
   go_meet
   case rel => exact ⟨_, (true), (by first | rfl | (simp; done) | (simp [*]; done)), H', ⟨by first | omega | exact Nat.le_refl _⟩, ⟨blk_⟩, ⟨bel_⟩⟩
 case rest =>
  clear HC2
  try clear p2
  try clear c3
  try clear c5
  try clear c6
  try clear p6
  try clear c7
  try clear z10_0 z10_1 z10_10 z10_2 z10_3 z10_4 z10_5 z10_6 z10_7 z10_8 z10_9
  try clear z8_0 z8_1 z8_10 z8_2 z8_3 z8_4 z8_5 z8_6 z8_7 z8_8 z8_9
  try clear z9_0 z9_1 z9_10 z9_2 z9_3 z9_4 z9_5 z9_6 z9_7 z9_8 z9_9
  try clear j10_0 j10_1 j10_10 j10_2 j10_3 j10_4 j10_5 j10_6 j10_7 j10_8 j10_9
  try clear j8_0 j8_1 j8_10 j8_2 j8_3 j8_4 j8_5 j8_6 j8_7 j8_8 j8_9
  try clear j9_0 j9_1 j9_10 j9_2 j9_3 j9_4 j9_5 j9_6 j9_7 j9_8 j9_9
  obtain ⟨kq, x20_1, rfl, HA, HJ1, BK151, HB⟩ := hcut
  cases kq with
  | zero => exact absurd HA.out (by simp [r03Plain.j0])
  | succ kj1 =>
   have H := HA.out
   clear HA
   simp only [r03Plain.j0] at H
   by_cases c11 : x20_1 = true
   ·
    subst c11
    have H1 : (some 7) = some r := by rw [if_pos rfl] at H; exact H
    clear H
    have H := H1
    clear H1
    obtain rfl := Option.some.inj H
    go_wp2
    go_ret
    exact ⟨by first | rfl | (simp [errW_none, errW_some] <;> rfl) | (simp [*, errW_none, errW_some] <;> rfl), bel_⟩
   ·
    replace c11 := Bool.eq_false_iff.mpr c11
    subst c11
    have H1 : ((r03within.f a0_2 1 4).bind fun t154 => (if t154 = true then ((r03within.f a0_3 (wrap64 ((wrap64 ((wrap64 (6 * (wrap64 (a0_1 + 1)))) * a0_2)) + 1)) 400).bind fun t155 => (if t155 = true then ((r03within.f a0_4 1 64).bind fun t156 => (if t156 = true then ((r03within.f a0_5 0 (wrap64 (a0_4 - 1))).bind fun t157 => (if t157 = true then ((r03within.f a0_6 0 30000).bind fun t158 => (if t158 = true then ((r03within.f a0_7 1 30000).bind fun t159 => (if t159 = true then ((r03within.f a0_8 2 250).bind fun t160 => (if t160 = true then ((r03within.f a0_9 1 100).bind fun t161 => (r03Plain.j1 kj1 (!t161) a0_0 a0_1 a0_2 a0_3 a0_4 a0_5 a0_6 a0_7 a0_8 a0_9 l0_10)) else (r03Plain.j1 kj1 true a0_0 a0_1 a0_2 a0_3 a0_4 a0_5 a0_6 a0_7 a0_8 a0_9 l0_10))) else (r03Plain.j1 kj1 true a0_0 a0_1 a0_2 a0_3 a0_4 a0_5 a0_6 a0_7 a0_8 a0_9 l0_10))) else (r03Plain.j1 kj1 true a0_0 a0_1 a0_2 a0_3 a0_4 a0_5 a0_6 a0_7 a0_8 a0_9 l0_10))) else (r03Plain.j1 kj1 true a0_0 a0_1 a0_2 a0_3 a0_4 a0_5 a0_6 a0_7 a0_8 a0_9 l0_10))) else (r03Plain.j1 kj1 true a0_0 a0_1 a0_2 a0_3 a0_4 a0_5 a0_6 a0_7 a0_8 a0_9 l0_10))) else (r03Plain.j1 kj1 true a0_0 a0_1 a0_2 a0_3 a0_4 a0_5 a0_6 a0_7 a0_8 a0_9 l0_10))) else (some 10))) = some r := by rw [if_neg (show ¬ (false = true) by decide)] at H; exact H
    clear H
    have H := H1
    clear H1
    replace H := Option.bind_eq_some_iff.mp H
    obtain ⟨t154, A120, H⟩ := H
    replace H : (if t154 = true then ((r03within.f a0_3 (wrap64 ((wrap64 ((wrap64 (6 * (wrap64 (a0_1 + 1)))) * a0_2)) + 1)) 400).bind fun t155 => (if t155 = true then ((r03within.f a0_4 1 64).bind fun t156 => (if t156 = true then ((r03within.f a0_5 0 (wrap64 (a0_4 - 1))).bind fun t157 => (if t157 = true then ((r03within.f a0_6 0 30000).bind fun t158 => (if t158 = true then ((r03within.f a0_7 1 30000).bind fun t159 => (if t159 = true then ((r03within.f a0_8 2 250).bind fun t160 => (if t160 = true then ((r03within.f a0_9 1 100).bind fun t161 => (r03Plain.j1 kj1 (!t161) a0_0 a0_1 a0_2 a0_3 a0_4 a0_5 a0_6 a0_7 a0_8 a0_9 l0_10)) else (r03Plain.j1 kj1 true a0_0 a0_1 a0_2 a0_3 a0_4 a0_5 a0_6 a0_7 a0_8 a0_9 l0_10))) else (r03Plain.j1 kj1 true a0_0 a0_1 a0_2 a0_3 a0_4 a0_5 a0_6 a0_7 a0_8 a0_9 l0_10))) else (r03Plain.j1 kj1 true a0_0 a0_1 a0_2 a0_3 a0_4 a0_5 a0_6 a0_7 a0_8 a0_9 l0_10))) else (r03Plain.j1 kj1 true a0_0 a0_1 a0_2 a0_3 a0_4 a0_5 a0_6 a0_7 a0_8 a0_9 l0_10))) else (r03Plain.j1 kj1 true a0_0 a0_1 a0_2 a0_3 a0_4 a0_5 a0_6 a0_7 a0_8 a0_9 l0_10))) else (r03Plain.j1 kj1 true a0_0 a0_1 a0_2 a0_3 a0_4 a0_5 a0_6 a0_7 a0_8 a0_9 l0_10))) else (some 10)) = some r := H
    have A12 := Sd.mk A120
    clear A120
    by_cases c13 : t154 = true
    ·
     subst c13
     have H1 : ((r03within.f a0_3 (wrap64 ((wrap64 ((wrap64 (6 * (wrap64 (a0_1 + 1)))) * a0_2)) + 1)) 400).bind fun t155 => (if t155 = true then ((r03within.f a0_4 1 64).bind fun t156 => (if t156 = true then ((r03within.f a0_5 0 (wrap64 (a0_4 - 1))).bind fun t157 => (if t157 = true then ((r03within.f a0_6 0 30000).bind fun t158 => (if t158 = true then ((r03within.f a0_7 1 30000).bind fun t159 => (if t159 = true then ((r03within.f a0_8 2 250).bind fun t160 => (if t160 = true then ((r03within.f a0_9 1 100).bind fun t161 => (r03Plain.j1 kj1 (!t161) a0_0 a0_1 a0_2 a0_3 a0_4 a0_5 a0_6 a0_7 a0_8 a0_9 l0_10)) else (r03Plain.j1 kj1 true a0_0 a0_1 a0_2 a0_3 a0_4 a0_5 a0_6 a0_7 a0_8 a0_9 l0_10))) else (r03Plain.j1 kj1 true a0_0 a0_1 a0_2 a0_3 a0_4 a0_5 a0_6 a0_7 a0_8 a0_9 l0_10))) else (r03Plain.j1 kj1 true a0_0 a0_1 a0_2 a0_3 a0_4 a0_5 a0_6 a0_7 a0_8 a0_9 l0_10))) else (r03Plain.j1 kj1 true a0_0 a0_1 a0_2 a0_3 a0_4 a0_5 a0_6 a0_7 a0_8 a0_9 l0_10))) else (r03Plain.j1 kj1 true a0_0 a0_1 a0_2 a0_3 a0_4 a0_5 a0_6 a0_7 a0_8 a0_9 l0_10))) else (r03Plain.j1 kj1 true a0_0 a0_1 a0_2 a0_3 a0_4 a0_5 a0_6 a0_7 a0_8 a0_9 l0_10))) = some r := by rw [if_pos rfl] at H; exact H
     clear H
     have H := H1
     clear H1
     have HC14 := Sd.mk H
     clear H
     obtain ⟨z15_0, z15_1, z15_2, z15_3, z15_4, z15_5, z15_6, z15_7, z15_8, z15_9, z15_10, j15_0, j15_1, j15_2, j15_3, j15_4, j15_5, j15_6, j15_7, j15_8, j15_9, j15_10⟩ := cells11 BK151.out
     go_upto_region 5 with (first | ((with_reducible refine gate_callee (f := 64) rfl ?_); refine goesL_ (some 23) rfl rfl Try.func64 (by kernel_rfl) rfl #[.int .i64 a0_2, .int .i64 1, .int .i64 4] rfl (by (try simp only [List.map_toArray, List.map_cons, List.map_nil]); first | done | rfl | (simp only [List.length_drop, List.length_take]; rfl)) ?_; (with_reducible refine (r03within.calls a0_2 1 4 true _ A12.out).mono ?_); rintro e w' ⟨rfl, ⟨nd, rfl⟩⟩; refine ⟨_, rfl, ?_⟩))
     (try simp only [Act.put, List.setIfInBounds_toArray, List.set_cons_zero, List.set_cons_succ])
     go_cut [75] (fun v75 wc => ∃ (kq : Nat) (x75_13 : Bool), v75 = .bool x75_13 ∧ Sd (r03Plain.j1 kq x75_13 a0_0 a0_1 a0_2 a0_3 a0_4 a0_5 a0_6 a0_7 a0_8 a0_9 l0_10 = some r) ∧ Sd (kq ≤ kj1) ∧ Sd (wc.heap[gb151]? = some (.cells #[.int .i64 a0_0, .int .i64 a0_1, .int .i64 a0_2, .int .i64 a0_3, .int .i64 a0_4, .int .i64 a0_5, .int .i64 a0_6, .int .i64 a0_7, .int .i64 a0_8, .int .i64 a0_9, (.slice A0_10 l0_10.length c0_10)] 24 (0, 0))) ∧ Sd (Below w.heap.size w wc))
     case first =>
      have H := HC14.out
      clear HC14
      replace H := Option.bind_eq_some_iff.mp H
      obtain ⟨t155, A160, H⟩ := H
      replace H : (if t155 = true then ((r03within.f a0_4 1 64).bind fun t156 => (if t156 = true then ((r03within.f a0_5 0 (wrap64 (a0_4 - 1))).bind fun t157 => (if t157 = true then ((r03within.f a0_6 0 30000).bind fun t158 => (if t158 = true then ((r03within.f a0_7 1 30000).bind fun t159 => (if t159 = true then ((r03within.f a0_8 2 250).bind fun t160 => (if t160 = true then ((r03within.f a0_9 1 100).bind fun t161 => (r03Plain.j1 kj1 (!t161) a0_0 a0_1 a0_2 a0_3 a0_4 a0_5 a0_6 a0_7 a0_8 a0_9 l0_10)) else (r03Plain.j1 kj1 true a0_0 a0_1 a0_2 a0_3 a0_4 a0_5 a0_6 a0_7 a0_8 a0_9 l0_10))) else (r03Plain.j1 kj1 true a0_0 a0_1 a0_2 a0_3 a0_4 a0_5 a0_6 a0_7 a0_8 a0_9 l0_10))) else (r03Plain.j1 kj1 true a0_0 a0_1 a0_2 a0_3 a0_4 a0_5 a0_6 a0_7 a0_8 a0_9 l0_10))) else (r03Plain.j1 kj1 true a0_0 a0_1 a0_2 a0_3 a0_4 a0_5 a0_6 a0_7 a0_8 a0_9 l0_10))) else (r03Plain.j1 kj1 true a0_0 a0_1 a0_2 a0_3 a0_4 a0_5 a0_6 a0_7 a0_8 a0_9 l0_10))) else (r03Plain.j1 kj1 true a0_0 a0_1 a0_2 a0_3 a0_4 a0_5 a0_6 a0_7 a0_8 a0_9 l0_10)) = some r := H
      have A16 := Sd.mk A160
      clear A160
      by_cases c17 : t155 = true
      ·
       subst c17
       have H1 : ((r03within.f a0_4 1 64).bind fun t156 => (if t156 = true then ((r03within.f a0_5 0 (wrap64 (a0_4 - 1))).bind fun t157 => (if t157 = true then ((r03within.f a0_6 0 30000).bind fun t158 => (if t158 = true then ((r03within.f a0_7 1 30000).bind fun t159 => (if t159 = true then ((r03within.f a0_8 2 250).bind fun t160 => (if t160 = true then ((r03within.f a0_9 1 100).bind fun t161 => (r03Plain.j1 kj1 (!t161) a0_0 a0_1 a0_2 a0_3 a0_4 a0_5 a0_6 a0_7 a0_8 a0_9 l0_10)) else (r03Plain.j1 kj1 true a0_0 a0_1 a0_2 a0_3 a0_4 a0_5 a0_6 a0_7 a0_8 a0_9 l0_10))) else (r03Plain.j1 kj1 true a0_0 a0_1 a0_2 a0_3 a0_4 a0_5 a0_6 a0_7 a0_8 a0_9 l0_10))) else (r03Plain.j1 kj1 true a0_0 a0_1 a0_2 a0_3 a0_4 a0_5 a0_6 a0_7 a0_8 a0_9 l0_10))) else (r03Plain.j1 kj1 true a0_0 a0_1 a0_2 a0_3 a0_4 a0_5 a0_6 a0_7 a0_8 a0_9 l0_10))) else (r03Plain.j1 kj1 true a0_0 a0_1 a0_2 a0_3 a0_4 a0_5 a0_6 a0_7 a0_8 a0_9 l0_10))) = some r := by rw [if_pos rfl] at H; exact H
       clear H
       have H := H1
       clear H1
       replace H := Option.bind_eq_some_iff.mp H
       obtain ⟨t156, A180, H⟩ := H
       replace H : (if t156 = true then ((r03within.f a0_5 0 (wrap64 (a0_4 - 1))).bind fun t157 => (if t157 = true then ((r03within.f a0_6 0 30000).bind fun t158 => (if t158 = true then ((r03within.f a0_7 1 30000).bind fun t159 => (if t159 = true then ((r03within.f a0_8 2 250).bind fun t160 => (if t160 = true then ((r03within.f a0_9 1 100).bind fun t161 => (r03Plain.j1 kj1 (!t161) a0_0 a0_1 a0_2 a0_3 a0_4 a0_5 a0_6 a0_7 a0_8 a0_9 l0_10)) else (r03Plain.j1 kj1 true a0_0 a0_1 a0_2 a0_3 a0_4 a0_5 a0_6 a0_7 a0_8 a0_9 l0_10))) else (r03Plain.j1 kj1 true a0_0 a0_1 a0_2 a0_3 a0_4 a0_5 a0_6 a0_7 a0_8 a0_9 l0_10))) else (r03Plain.j1 kj1 true a0_0 a0_1 a0_2 a0_3 a0_4 a0_5 a0_6 a0_7 a0_8 a0_9 l0_10))) else (r03Plain.j1 kj1 true a0_0 a0_1 a0_2 a0_3 a0_4 a0_5 a0_6 a0_7 a0_8 a0_9 l0_10))) else (r03Plain.j1 kj1 true a0_0 a0_1 a0_2 a0_3 a0_4 a0_5 a0_6 a0_7 a0_8 a0_9 l0_10)) = some r := H
       have A18 := Sd.mk A180
       clear A180
       by_cases c19 : t156 = true
       ·
        subst c19
        have H1 : ((r03within.f a0_5 0 (wrap64 (a0_4 - 1))).bind fun t157 => (if t157 = true then ((r03within.f a0_6 0 30000).bind fun t158 => (if t158 = true then ((r03within.f a0_7 1 30000).bind fun t159 => (if t159 = true then ((r03within.f a0_8 2 250).bind fun t160 => (if t160 = true then ((r03within.f a0_9 1 100).bind fun t161 => (r03Plain.j1 kj1 (!t161) a0_0 a0_1 a0_2 a0_3 a0_4 a0_5 a0_6 a0_7 a0_8 a0_9 l0_10)) else (r03Plain.j1 kj1 true a0_0 a0_1 a0_2 a0_3 a0_4 a0_5 a0_6 a0_7 a0_8 a0_9 l0_10))) else (r03Plain.j1 kj1 true a0_0 a0_1 a0_2 a0_3 a0_4 a0_5 a0_6 a0_7 a0_8 a0_9 l0_10))) else (r03Plain.j1 kj1 true a0_0 a0_1 a0_2 a0_3 a0_4 a0_5 a0_6 a0_7 a0_8 a0_9 l0_10))) else (r03Plain.j1 kj1 true a0_0 a0_1 a0_2 a0_3 a0_4 a0_5 a0_6 a0_7 a0_8 a0_9 l0_10))) = some r := by rw [if_pos rfl] at H; exact H
        clear H
        have H := H1
        clear H1
        replace H := Option.bind_eq_some_iff.mp H
        obtain ⟨t157, A200, H⟩ := H
        replace H : (if t157 = true then ((r03within.f a0_6 0 30000).bind fun t158 => (if t158 = true then ((r03within.f a0_7 1 30000).bind fun t159 => (if t159 = true then ((r03within.f a0_8 2 250).bind fun t160 => (if t160 = true then ((r03within.f a0_9 1 100).bind fun t161 => (r03Plain.j1 kj1 (!t161) a0_0 a0_1 a0_2 a0_3 a0_4 a0_5 a0_6 a0_7 a0_8 a0_9 l0_10)) else (r03Plain.j1 kj1 true a0_0 a0_1 a0_2 a0_3 a0_4 a0_5 a0_6 a0_7 a0_8 a0_9 l0_10))) else (r03Plain.j1 kj1 true a0_0 a0_1 a0_2 a0_3 a0_4 a0_5 a0_6 a0_7 a0_8 a0_9 l0_10))) else (r03Plain.j1 kj1 true a0_0 a0_1 a0_2 a0_3 a0_4 a0_5 a0_6 a0_7 a0_8 a0_9 l0_10))) else (r03Plain.j1 kj1 true a0_0 a0_1 a0_2 a0_3 a0_4 a0_5 a0_6 a0_7 a0_8 a0_9 l0_10)) = some r := H
        have A20 := Sd.mk A200
        clear A200
        by_cases c21 : t157 = true
        ·
         subst c21
         have H1 : ((r03within.f a0_6 0 30000).bind fun t158 => (if t158 = true then ((r03within.f a0_7 1 30000).bind fun t159 => (if t159 = true then ((r03within.f a0_8 2 250).bind fun t160 => (if t160 = true then ((r03within.f a0_9 1 100).bind fun t161 => (r03Plain.j1 kj1 (!t161) a0_0 a0_1 a0_2 a0_3 a0_4 a0_5 a0_6 a0_7 a0_8 a0_9 l0_10)) else (r03Plain.j1 kj1 true a0_0 a0_1 a0_2 a0_3 a0_4 a0_5 a0_6 a0_7 a0_8 a0_9 l0_10))) else (r03Plain.j1 kj1 true a0_0 a0_1 a0_2 a0_3 a0_4 a0_5 a0_6 a0_7 a0_8 a0_9 l0_10))) else (r03Plain.j1 kj1 true a0_0 a0_1 a0_2 a0_3 a0_4 a0_5 a0_6 a0_7 a0_8 a0_9 l0_10))) = some r := by rw [if_pos rfl] at H; exact H
         clear H
         have H := H1
         clear H1
         replace H := Option.bind_eq_some_iff.mp H
         obtain ⟨t158, A220, H⟩ := H
         replace H : (if t158 = true then ((r03within.f a0_7 1 30000).bind fun t159 => (if t159 = true then ((r03within.f a0_8 2 250).bind fun t160 => (if t160 = true then ((r03within.f a0_9 1 100).bind fun t161 => (r03Plain.j1 kj1 (!t161) a0_0 a0_1 a0_2 a0_3 a0_4 a0_5 a0_6 a0_7 a0_8 a0_9 l0_10)) else (r03Plain.j1 kj1 true a0_0 a0_1 a0_2 a0_3 a0_4 a0_5 a0_6 a0_7 a0_8 a0_9 l0_10))) else (r03Plain.j1 kj1 true a0_0 a0_1 a0_2 a0_3 a0_4 a0_5 a0_6 a0_7 a0_8 a0_9 l0_10))) else (r03Plain.j1 kj1 true a0_0 a0_1 a0_2 a0_3 a0_4 a0_5 a0_6 a0_7 a0_8 a0_9 l0_10)) = some r := H
         have A22 := Sd.mk A220
         clear A220
         by_cases c23 : t158 = true
         ·
          subst c23
          have H1 : ((r03within.f a0_7 1 30000).bind fun t159 => (if t159 = true then ((r03within.f a0_8 2 250).bind fun t160 => (if t160 = true then ((r03within.f a0_9 1 100).bind fun t161 => (r03Plain.j1 kj1 (!t161) a0_0 a0_1 a0_2 a0_3 a0_4 a0_5 a0_6 a0_7 a0_8 a0_9 l0_10)) else (r03Plain.j1 kj1 true a0_0 a0_1 a0_2 a0_3 a0_4 a0_5 a0_6 a0_7 a0_8 a0_9 l0_10))) else (r03Plain.j1 kj1 true a0_0 a0_1 a0_2 a0_3 a0_4 a0_5 a0_6 a0_7 a0_8 a0_9 l0_10))) = some r := by rw [if_pos rfl] at H; exact H
          clear H
          have H := H1
          clear H1
          replace H := Option.bind_eq_some_iff.mp H
          obtain ⟨t159, A240, H⟩ := H
          replace H : (if t159 = true then ((r03within.f a0_8 2 250).bind fun t160 => (if t160 = true then ((r03within.f a0_9 1 100).bind fun t161 => (r03Plain.j1 kj1 (!t161) a0_0 a0_1 a0_2 a0_3 a0_4 a0_5 a0_6 a0_7 a0_8 a0_9 l0_10)) else (r03Plain.j1 kj1 true a0_0 a0_1 a0_2 a0_3 a0_4 a0_5 a0_6 a0_7 a0_8 a0_9 l0_10))) else (r03Plain.j1 kj1 true a0_0 a0_1 a0_2 a0_3 a0_4 a0_5 a0_6 a0_7 a0_8 a0_9 l0_10)) = some r := H
          have A24 := Sd.mk A240
          clear A240
          by_cases c25 : t159 = true
          ·
           subst c25
           have H1 : ((r03within.f a0_8 2 250).bind fun t160 => (if t160 = true then ((r03within.f a0_9 1 100).bind fun t161 => (r03Plain.j1 kj1 (!t161) a0_0 a0_1 a0_2 a0_3 a0_4 a0_5 a0_6 a0_7 a0_8 a0_9 l0_10)) else (r03Plain.j1 kj1 true a0_0 a0_1 a0_2 a0_3 a0_4 a0_5 a0_6 a0_7 a0_8 a0_9 l0_10))) = some r := by rw [if_pos rfl] at H; exact H
           clear H
           have H := H1
           clear H1
           replace H := Option.bind_eq_some_iff.mp H
           obtain ⟨t160, A260, H⟩ := H
           replace H : (if t160 = true then ((r03within.f a0_9 1 100).bind fun t161 => (r03Plain.j1 kj1 (!t161) a0_0 a0_1 a0_2 a0_3 a0_4 a0_5 a0_6 a0_7 a0_8 a0_9 l0_10)) else (r03Plain.j1 kj1 true a0_0 a0_1 a0_2 a0_3 a0_4 a0_5 a0_6 a0_7 a0_8 a0_9 l0_10)) = some r := H
           have A26 := Sd.mk A260
           clear A260
           by_cases c27 : t160 = true
           ·
            subst c27
            have H1 : ((r03within.f a0_9 1 100).bind fun t161 => (r03Plain.j1 kj1 (!t161) a0_0 a0_1 a0_2 a0_3 a0_4 a0_5 a0_6 a0_7 a0_8 a0_9 l0_10)) = some r := by rw [if_pos rfl] at H; exact H
            clear H
            have H := H1
            clear H1
            replace H := Option.bind_eq_some_iff.mp H
            obtain ⟨t161, A280, H⟩ := H
            replace H : (r03Plain.j1 kj1 (!t161) a0_0 a0_1 a0_2 a0_3 a0_4 a0_5 a0_6 a0_7 a0_8 a0_9 l0_10) = some r := H
            have A28 := Sd.mk A280
            clear A280
            have H' := Sd.mk H
            clear H
            obtain ⟨z29_0, z29_1, z29_2, z29_3, z29_4, z29_5, z29_6, z29_7, z29_8, z29_9, z29_10, j29_0, j29_1, j29_2, j29_3, j29_4, j29_5, j29_6, j29_7, j29_8, j29_9, j29_10⟩ := cells11 BK151.out
            go_wp2_with (first | ((with_reducible refine gate_callee (f := 64) rfl ?_); refine goesL_ (some 35) rfl rfl Try.func64 (by kernel_rfl) rfl #[.int .i64 a0_3, .int .i64 (wrap64 ((wrap64 ((wrap64 (6 * (wrap64 (a0_1 + 1)))) * a0_2)) + 1)), .int .i64 400] rfl (by (try simp only [List.map_toArray, List.map_cons, List.map_nil]); first | done | rfl | (simp only [List.length_drop, List.length_take]; rfl)) ?_; (with_reducible refine (r03within.calls a0_3 (wrap64 ((wrap64 ((wrap64 (6 * (wrap64 (a0_1 + 1)))) * a0_2)) + 1)) 400 true _ A16.out).mono ?_); rintro e w' ⟨rfl, ⟨nd, rfl⟩⟩; refine ⟨_, rfl, ?_⟩) | (go_at_call 64; (with_reducible refine (r03within.calls a0_4 1 64 true _ A18.out).mono ?_); rintro e w' ⟨rfl, ⟨nd, rfl⟩⟩) | (go_at_call 64; (with_reducible refine (r03within.calls a0_5 0 (wrap64 (a0_4 - 1)) true _ A20.out).mono ?_); rintro e w' ⟨rfl, ⟨nd, rfl⟩⟩) | (go_at_call 64; (with_reducible refine (r03within.calls a0_6 0 30000 true _ A22.out).mono ?_); rintro e w' ⟨rfl, ⟨nd, rfl⟩⟩) | (go_at_call 64; (with_reducible refine (r03within.calls a0_7 1 30000 true _ A24.out).mono ?_); rintro e w' ⟨rfl, ⟨nd, rfl⟩⟩) | (go_at_call 64; (with_reducible refine (r03within.calls a0_8 2 250 true _ A26.out).mono ?_); rintro e w' ⟨rfl, ⟨nd, rfl⟩⟩) | (go_at_call 64; (with_reducible refine (r03within.calls a0_9 1 100 t161 _ A28.out).mono ?_); rintro e w' ⟨rfl, ⟨nd, rfl⟩⟩))
            go_meet
            case rel => exact ⟨_, (!t161), (by first | rfl | (simp; done) | (simp [*]; done)), H', ⟨by have := HJ1.out; first | omega | exact Nat.le_refl _⟩, ⟨blk_⟩, ⟨bel_⟩⟩
           ·
            replace c27 := Bool.eq_false_iff.mpr c27
            subst c27
            have H1 : (r03Plain.j1 kj1 true a0_0 a0_1 a0_2 a0_3 a0_4 a0_5 a0_6 a0_7 a0_8 a0_9 l0_10) = some r := by rw [if_neg (show ¬ (false = true) by decide)] at H; exact H
            clear H
            have H := H1
            clear H1
            have H' := Sd.mk H
            clear H
            obtain ⟨z30_0, z30_1, z30_2, z30_3, z30_4, z30_5, z30_6, z30_7, z30_8, z30_9, z30_10, j30_0, j30_1, j30_2, j30_3, j30_4, j30_5, j30_6, j30_7, j30_8, j30_9, j30_10⟩ := cells11 BK151.out
            go_wp2_with (first | ((with_reducible refine gate_callee (f := 64) rfl ?_); refine goesL_ (some 35) rfl rfl Try.func64 (by kernel_rfl) rfl #[.int .i64 a0_3, .int .i64 (wrap64 ((wrap64 ((wrap64 (6 * (wrap64 (a0_1 + 1)))) * a0_2)) + 1)), .int .i64 400] rfl (by (try simp only [List.map_toArray, List.map_cons, List.map_nil]); first | done | rfl | (simp only [List.length_drop, List.length_take]; rfl)) ?_; (with_reducible refine (r03within.calls a0_3 (wrap64 ((wrap64 ((wrap64 (6 * (wrap64 (a0_1 + 1)))) * a0_2)) + 1)) 400 true _ A16.out).mono ?_); rintro e w' ⟨rfl, ⟨nd, rfl⟩⟩; refine ⟨_, rfl, ?_⟩) | (go_at_call 64; (with_reducible refine (r03within.calls a0_4 1 64 true _ A18.out).mono ?_); rintro e w' ⟨rfl, ⟨nd, rfl⟩⟩) | (go_at_call 64; (with_reducible refine (r03within.calls a0_5 0 (wrap64 (a0_4 - 1)) true _ A20.out).mono ?_); rintro e w' ⟨rfl, ⟨nd, rfl⟩⟩) | (go_at_call 64; (with_reducible refine (r03within.calls a0_6 0 30000 true _ A22.out).mono ?_); rintro e w' ⟨rfl, ⟨nd, rfl⟩⟩) | (go_at_call 64; (with_reducible refine (r03within.calls a0_7 1 30000 true _ A24.out).mono ?_); rintro e w' ⟨rfl, ⟨nd, rfl⟩⟩) | (go_at_call 64; (with_reducible refine (r03within.calls a0_8 2 250 false _ A26.out).mono ?_); rintro e w' ⟨rfl, ⟨nd, rfl⟩⟩))
            go_meet
            case rel => exact ⟨_, (true), (by first | rfl | (simp; done) | (simp [*]; done)), H', ⟨by have := HJ1.out; first | omega | exact Nat.le_refl _⟩, ⟨blk_⟩, ⟨bel_⟩⟩
          ·
           replace c25 := Bool.eq_false_iff.mpr c25
           subst c25
           have H1 : (r03Plain.j1 kj1 true a0_0 a0_1 a0_2 a0_3 a0_4 a0_5 a0_6 a0_7 a0_8 a0_9 l0_10) = some r := by rw [if_neg (show ¬ (false = true) by decide)] at H; exact H
           clear H
           have H := H1
           clear H1
           have H' := Sd.mk H
           clear H
           obtain ⟨z31_0, z31_1, z31_2, z31_3, z31_4, z31_5, z31_6, z31_7, z31_8, z31_9, z31_10, j31_0, j31_1, j31_2, j31_3, j31_4, j31_5, j31_6, j31_7, j31_8, j31_9, j31_10⟩ := cells11 BK151.out
           go_wp2_with (first | ((with_reducible refine gate_callee (f := 64) rfl ?_); refine goesL_ (some 35) rfl rfl Try.func64 (by kernel_rfl) rfl #[.int .i64 a0_3, .int .i64 (wrap64 ((wrap64 ((wrap64 (6 * (wrap64 (a0_1 + 1)))) * a0_2)) + 1)), .int .i64 400] rfl (by (try simp only [List.map_toArray, List.map_cons, List.map_nil]); first | done | rfl | (simp only [List.length_drop, List.length_take]; rfl)) ?_; (with_reducible refine (r03within.calls a0_3 (wrap64 ((wrap64 ((wrap64 (6 * (wrap64 (a0_1 + 1)))) * a0_2)) + 1)) 400 true _ A16.out).mono ?_); rintro e w' ⟨rfl, ⟨nd, rfl⟩⟩; refine ⟨_, rfl, ?_⟩) | (go_at_call 64; (with_reducible refine (r03within.calls a0_4 1 64 true _ A18.out).mono ?_); rintro e w' ⟨rfl, ⟨nd, rfl⟩⟩) | (go_at_call 64; (with_reducible refine (r03within.calls a0_5 0 (wrap64 (a0_4 - 1)) true _ A20.out).mono ?_); rintro e w' ⟨rfl, ⟨nd, rfl⟩⟩) | (go_at_call 64; (with_reducible refine (r03within.calls a0_6 0 30000 true _ A22.out).mono ?_); rintro e w' ⟨rfl, ⟨nd, rfl⟩⟩) | (go_at_call 64; (with_reducible refine (r03within.calls a0_7 1 30000 false _ A24.out).mono ?_); rintro e w' ⟨rfl, ⟨nd, rfl⟩⟩))
           go_meet
           case rel => exact ⟨_, (true), (by first | rfl | (simp; done) | (simp [*]; done)), H', ⟨by have := HJ1.out; first | omega | exact Nat.le_refl _⟩, ⟨blk_⟩, ⟨bel_⟩⟩
         ·
          replace c23 := Bool.eq_false_iff.mpr c23
          subst c23
          have H1 : (r03Plain.j1 kj1 true a0_0 a0_1 a0_2 a0_3 a0_4 a0_5 a0_6 a0_7 a0_8 a0_9 l0_10) = some r := by rw [if_neg (show ¬ (false = true) by decide)] at H; exact H
          clear H
          have H := H1
          clear H1
          have H' := Sd.mk H
          clear H
          obtain ⟨z32_0, z32_1, z32_2, z32_3, z32_4, z32_5, z32_6, z32_7, z32_8, z32_9, z32_10, j32_0, j32_1, j32_2, j32_3, j32_4, j32_5, j32_6, j32_7, j32_8, j32_9, j32_10⟩ := cells11 BK151.out
          go_wp2_with (first | ((with_reducible refine gate_callee (f := 64) rfl ?_); refine goesL_ (some 35) rfl rfl Try.func64 (by kernel_rfl) rfl #[.int .i64 a0_3, .int .i64 (wrap64 ((wrap64 ((wrap64 (6 * (wrap64 (a0_1 + 1)))) * a0_2)) + 1)), .int .i64 400] rfl (by (try simp only [List.map_toArray, List.map_cons, List.map_nil]); first | done | rfl | (simp only [List.length_drop, List.length_take]; rfl)) ?_; (with_reducible refine (r03within.calls a0_3 (wrap64 ((wrap64 ((wrap64 (6 * (wrap64 (a0_1 + 1)))) * a0_2)) + 1)) 400 true _ A16.out).mono ?_); rintro e w' ⟨rfl, ⟨nd, rfl⟩⟩; refine ⟨_, rfl, ?_⟩) | (go_at_call 64; (with_reducible refine (r03within.calls a0_4 1 64 true _ A18.out).mono ?_); rintro e w' ⟨rfl, ⟨nd, rfl⟩⟩) | (go_at_call 64; (with_reducible refine (r03within.calls a0_5 0 (wrap64 (a0_4 - 1)) true _ A20.out).mono ?_); rintro e w' ⟨rfl, ⟨nd, rfl⟩⟩) | (go_at_call 64; (with_reducible refine (r03within.calls a0_6 0 30000 false _ A22.out).mono ?_); rintro e w' ⟨rfl, ⟨nd, rfl⟩⟩))
          go_meet
          case rel => exact ⟨_, (true), (by first | rfl | (simp; done) | (simp [*]; done)), H', ⟨by have := HJ1.out; first | omega | exact Nat.le_refl _⟩, ⟨blk_⟩, ⟨bel_⟩⟩
        ·
         replace c21 := Bool.eq_false_iff.mpr c21
         subst c21
         have H1 : (r03Plain.j1 kj1 true a0_0 a0_1 a0_2 a0_3 a0_4 a0_5 a0_6 a0_7 a0_8 a0_9 l0_10) = some r := by rw [if_neg (show ¬ (false = true) by decide)] at H; exact H
         clear H
         have H := H1
         clear H1
         have H' := Sd.mk H
         clear H
         obtain ⟨z33_0, z33_1, z33_2, z33_3, z33_4, z33_5, z33_6, z33_7, z33_8, z33_9, z33_10, j33_0, j33_1, j33_2, j33_3, j33_4, j33_5, j33_6, j33_7, j33_8, j33_9, j33_10⟩ := cells11 BK151.out
         go_wp2_with (first | ((with_reducible refine gate_callee (f := 64) rfl ?_); refine goesL_ (some 35) rfl rfl Try.func64 (by kernel_rfl) rfl #[.int .i64 a0_3, .int .i64 (wrap64 ((wrap64 ((wrap64 (6 * (wrap64 (a0_1 + 1)))) * a0_2)) + 1)), .int .i64 400] rfl (by (try simp only [List.map_toArray, List.map_cons, List.map_nil]); first | done | rfl | (simp only [List.length_drop, List.length_take]; rfl)) ?_; (with_reducible refine (r03within.calls a0_3 (wrap64 ((wrap64 ((wrap64 (6 * (wrap64 (a0_1 + 1)))) * a0_2)) + 1)) 400 true _ A16.out).mono ?_); rintro e w' ⟨rfl, ⟨nd, rfl⟩⟩; refine ⟨_, rfl, ?_⟩) | (go_at_call 64; (with_reducible refine (r03within.calls a0_4 1 64 true _ A18.out).mono ?_); rintro e w' ⟨rfl, ⟨nd, rfl⟩⟩) | (go_at_call 64; (with_reducible refine (r03within.calls a0_5 0 (wrap64 (a0_4 - 1)) false _ A20.out).mono ?_); rintro e w' ⟨rfl, ⟨nd, rfl⟩⟩))
         go_meet
         case rel => exact ⟨_, (true), (by first | rfl | (simp; done) | (simp [*]; done)), H', ⟨by have := HJ1.out; first | omega | exact Nat.le_refl _⟩, ⟨blk_⟩, ⟨bel_⟩⟩
       ·
        replace c19 := Bool.eq_false_iff.mpr c19
        subst c19
        have H1 : (r03Plain.j1 kj1 true a0_0 a0_1 a0_2 a0_3 a0_4 a0_5 a0_6 a0_7 a0_8 a0_9 l0_10) = some r := by rw [if_neg (show ¬ (false = true) by decide)] at H; exact H
        clear H
        have H := H1
        clear H1
        have H' := Sd.mk H
        clear H
        obtain ⟨z34_0, z34_1, z34_2, z34_3, z34_4, z34_5, z34_6, z34_7, z34_8, z34_9, z34_10, j34_0, j34_1, j34_2, j34_3, j34_4, j34_5, j34_6, j34_7, j34_8, j34_9, j34_10⟩ := cells11 BK151.out
        go_wp2_with (first | ((with_reducible refine gate_callee (f := 64) rfl ?_); refine goesL_ (some 35) rfl rfl Try.func64 (by kernel_rfl) rfl #[.int .i64 a0_3, .int .i64 (wrap64 ((wrap64 ((wrap64 (6 * (wrap64 (a0_1 + 1)))) * a0_2)) + 1)), .int .i64 400] rfl (by (try simp only [List.map_toArray, List.map_cons, List.map_nil]); first | done | rfl | (simp only [List.length_drop, List.length_take]; rfl)) ?_; (with_reducible refine (r03within.calls a0_3 (wrap64 ((wrap64 ((wrap64 (6 * (wrap64 (a0_1 + 1)))) * a0_2)) + 1)) 400 true _ A16.out).mono ?_); rintro e w' ⟨rfl, ⟨nd, rfl⟩⟩; refine ⟨_, rfl, ?_⟩) | (go_at_call 64; (with_reducible refine (r03within.calls a0_4 1 64 false _ A18.out).mono ?_); rintro e w' ⟨rfl, ⟨nd, rfl⟩⟩))
        go_meet
        case rel => exact ⟨_, (true), (by first | rfl | (simp; done) | (simp [*]; done)), H', ⟨by have := HJ1.out; first | omega | exact Nat.le_refl _⟩, ⟨blk_⟩, ⟨bel_⟩⟩
      ·
       replace c17 := Bool.eq_false_iff.mpr c17
       subst c17
       have H1 : (r03Plain.j1 kj1 true a0_0 a0_1 a0_2 a0_3 a0_4 a0_5 a0_6 a0_7 a0_8 a0_9 l0_10) = some r := by rw [if_neg (show ¬ (false = true) by decide)] at H; exact H
       clear H
       have H := H1
       clear H1
       have H' := Sd.mk H
       clear H
       obtain ⟨z35_0, z35_1, z35_2, z35_3, z35_4, z35_5, z35_6, z35_7, z35_8, z35_9, z35_10, j35_0, j35_1, j35_2, j35_3, j35_4, j35_5, j35_6, j35_7, j35_8, j35_9, j35_10⟩ := cells11 BK151.out
       go_wp2_with (first | ((with_reducible refine gate_callee (f := 64) rfl ?_); refine goesL_ (some 35) rfl rfl Try.func64 (by kernel_rfl) rfl #[.int .i64 a0_3, .int .i64 (wrap64 ((wrap64 ((wrap64 (6 * (wrap64 (a0_1 + 1)))) * a0_2)) + 1)), .int .i64 400] rfl (by (try simp only [List.map_toArray, List.map_cons, List.map_nil]); first | done | rfl | (simp only [List.length_drop, List.length_take]; rfl)) ?_; (with_reducible refine (r03within.calls a0_3 (wrap64 ((wrap64 ((wrap64 (6 * (wrap64 (a0_1 + 1)))) * a0_2)) + 1)) 400 false _ A16.out).mono ?_); rintro e w' ⟨rfl, ⟨nd, rfl⟩⟩; refine ⟨_, rfl, ?_⟩))
       go_meet
       case rel => exact ⟨_, (true), (by first | rfl | (simp; done) | (simp [*]; done)), H', ⟨by have := HJ1.out; first | omega | exact Nat.le_refl _⟩, ⟨blk_⟩, ⟨bel_⟩⟩
     case rest =>
      clear HC14
      try clear c1
      try clear c2
      try clear p2
      try clear c3
      try clear c5
      try clear c6
      try clear p6
      try clear c7
      try clear c11
      try clear c13
      try clear c17
      try clear c19
      try clear c21
      try clear c23
      try clear c25
      try clear c27
      try clear z10_0 z10_1 z10_10 z10_2 z10_3 z10_4 z10_5 z10_6 z10_7 z10_8 z10_9
      try clear z15_0 z15_1 z15_10 z15_2 z15_3 z15_4 z15_5 z15_6 z15_7 z15_8 z15_9
      try clear z29_0 z29_1 z29_10 z29_2 z29_3 z29_4 z29_5 z29_6 z29_7 z29_8 z29_9
      try clear z30_0 z30_1 z30_10 z30_2 z30_3 z30_4 z30_5 z30_6 z30_7 z30_8 z30_9
      try clear z31_0 z31_1 z31_10 z31_2 z31_3 z31_4 z31_5 z31_6 z31_7 z31_8 z31_9
      try clear z32_0 z32_1 z32_10 z32_2 z32_3 z32_4 z32_5 z32_6 z32_7 z32_8 z32_9
      try clear z33_0 z33_1 z33_10 z33_2 z33_3 z33_4 z33_5 z33_6 z33_7 z33_8 z33_9
      try clear z34_0 z34_1 z34_10 z34_2 z34_3 z34_4 z34_5 z34_6 z34_7 z34_8 z34_9
      try clear z35_0 z35_1 z35_10 z35_2 z35_3 z35_4 z35_5 z35_6 z35_7 z35_8 z35_9
      try clear z8_0 z8_1 z8_10 z8_2 z8_3 z8_4 z8_5 z8_6 z8_7 z8_8 z8_9
      try clear z9_0 z9_1 z9_10 z9_2 z9_3 z9_4 z9_5 z9_6 z9_7 z9_8 z9_9
      try clear j10_0 j10_1 j10_10 j10_2 j10_3 j10_4 j10_5 j10_6 j10_7 j10_8 j10_9
      try clear j15_0 j15_1 j15_10 j15_2 j15_3 j15_4 j15_5 j15_6 j15_7 j15_8 j15_9
      try clear j29_0 j29_1 j29_10 j29_2 j29_3 j29_4 j29_5 j29_6 j29_7 j29_8 j29_9
      try clear j30_0 j30_1 j30_10 j30_2 j30_3 j30_4 j30_5 j30_6 j30_7 j30_8 j30_9
      try clear j31_0 j31_1 j31_10 j31_2 j31_3 j31_4 j31_5 j31_6 j31_7 j31_8 j31_9
      try clear j32_0 j32_1 j32_10 j32_2 j32_3 j32_4 j32_5 j32_6 j32_7 j32_8 j32_9
      try clear j33_0 j33_1 j33_10 j33_2 j33_3 j33_4 j33_5 j33_6 j33_7 j33_8 j33_9
      try clear j34_0 j34_1 j34_10 j34_2 j34_3 j34_4 j34_5 j34_6 j34_7 j34_8 j34_9
      try clear j35_0 j35_1 j35_10 j35_2 j35_3 j35_4 j35_5 j35_6 j35_7 j35_8 j35_9
      try clear j8_0 j8_1 j8_10 j8_2 j8_3 j8_4 j8_5 j8_6 j8_7 j8_8 j8_9
      try clear j9_0 j9_1 j9_10 j9_2 j9_3 j9_4 j9_5 j9_6 j9_7 j9_8 j9_9
      try clear p2
      try clear p6
      obtain ⟨kq, x75_13, rfl, HA, HJ13, BK151, HB⟩ := hcut
      cases kq with
      | zero => exact absurd HA.out (by simp [r03Plain.j1])
      | succ kj13 =>
       have H := HA.out
       clear HA
       simp only [r03Plain.j1] at H
       by_cases c36 : x75_13 = true
       ·
        subst c36
        have H1 : (some 8) = some r := by rw [if_pos rfl] at H; exact H
        clear H
        have H := H1
        clear H1
        obtain rfl := Option.some.inj H
        go_wp2
        go_ret
        exact ⟨by first | rfl | (simp [errW_none, errW_some] <;> rfl) | (simp [*, errW_none, errW_some] <;> rfl), bel_⟩
       ·
        replace c36 := Bool.eq_false_iff.mpr c36
        subst c36
        have H1 : ((r03within.f (l0_10.length : Int) 1 32).bind fun t162 => (if t162 = true then ((r03owned.f kj13 a0_0 a0_1 a0_2 a0_3 a0_4 a0_5 a0_6 a0_7 a0_8 a0_9 l0_10).bind fun t163 => (if t163 = true then (some 0) else (some 11))) else (some 11))) = some r := by rw [if_neg (show ¬ (false = true) by decide)] at H; exact H
        clear H
        have H := H1
        clear H1
        replace H := Option.bind_eq_some_iff.mp H
        obtain ⟨t162, A370, H⟩ := H
        replace H : (if t162 = true then ((r03owned.f kj13 a0_0 a0_1 a0_2 a0_3 a0_4 a0_5 a0_6 a0_7 a0_8 a0_9 l0_10).bind fun t163 => (if t163 = true then (some 0) else (some 11))) else (some 11)) = some r := H
        have A37 := Sd.mk A370
        clear A370
        by_cases c38 : t162 = true
        ·
         subst c38
         have H1 : ((r03owned.f kj13 a0_0 a0_1 a0_2 a0_3 a0_4 a0_5 a0_6 a0_7 a0_8 a0_9 l0_10).bind fun t163 => (if t163 = true then (some 0) else (some 11))) = some r := by rw [if_pos rfl] at H; exact H
         clear H
         have H := H1
         clear H1
         replace H := Option.bind_eq_some_iff.mp H
         obtain ⟨t163, A390, H⟩ := H
         replace H : (if t163 = true then (some 0) else (some 11)) = some r := H
         have A39 := Sd.mk A390
         clear A390
         by_cases c40 : t163 = true
         ·
          subst c40
          have H1 : (some 0) = some r := by rw [if_pos rfl] at H; exact H
          clear H
          have H := H1
          clear H1
          obtain rfl := Option.some.inj H
          obtain ⟨z41_0, z41_1, z41_2, z41_3, z41_4, z41_5, z41_6, z41_7, z41_8, z41_9, z41_10, j41_0, j41_1, j41_2, j41_3, j41_4, j41_5, j41_6, j41_7, j41_8, j41_9, j41_10⟩ := cells11 BK151.out
          go_wp2_with (first | ((with_reducible refine gate_callee (f := 64) rfl ?_); refine goesL_ (some 79) rfl rfl Try.func64 (by kernel_rfl) rfl #[.int .i64 (l0_10.length : Int), .int .i64 1, .int .i64 32] rfl (by (try simp only [List.map_toArray, List.map_cons, List.map_nil]); first | done | rfl | (simp only [List.length_drop, List.length_take]; rfl)) ?_; (with_reducible refine (r03within.calls (l0_10.length : Int) 1 32 true _ A37.out).mono ?_); rintro e w' ⟨rfl, ⟨nd, rfl⟩⟩; refine ⟨_, rfl, ?_⟩) | (go_at_call 65; (with_reducible refine (r03owned.calls kj13 a0_0 a0_1 a0_2 a0_3 a0_4 a0_5 a0_6 a0_7 a0_8 a0_9 _ _ l0_10 true _ ?side1 ?side2 A39.out).mono ?_); (case side1 => repeat (first | exact (Kd.C_below HR0_10.out bel_) | (with_reducible refine Kd.C_alloc ?_ _) | (with_reducible refine Kd.C_drewN ?_ _) | (with_reducible refine Kd.C_drew ?_))); (case side2 => exact HC0_10.out); rintro e w42 ⟨rfl, hb⟩; have n0_ := Sd.mk (blk_below (g := gb151) blk_ hb); have n1_ := Sd.mk (below_step bel_ hb); clear BK151; clear HB; have BK151 := n0_; have HB := n1_; clear n0_ n1_; (try clear hb); (try clear hb2); (try clear hk); (try clear hi)))
          go_ret
          exact ⟨by first | rfl | (simp [errW_none, errW_some] <;> rfl) | (simp [*, errW_none, errW_some] <;> rfl), bel_⟩
         ·
          replace c40 := Bool.eq_false_iff.mpr c40
          subst c40
          have H1 : (some 11) = some r := by rw [if_neg (show ¬ (false = true) by decide)] at H; exact H
          clear H
          have H := H1
          clear H1
          obtain rfl := Option.some.inj H
          obtain ⟨z43_0, z43_1, z43_2, z43_3, z43_4, z43_5, z43_6, z43_7, z43_8, z43_9, z43_10, j43_0, j43_1, j43_2, j43_3, j43_4, j43_5, j43_6, j43_7, j43_8, j43_9, j43_10⟩ := cells11 BK151.out
          go_wp2_with (first | ((with_reducible refine gate_callee (f := 64) rfl ?_); refine goesL_ (some 79) rfl rfl Try.func64 (by kernel_rfl) rfl #[.int .i64 (l0_10.length : Int), .int .i64 1, .int .i64 32] rfl (by (try simp only [List.map_toArray, List.map_cons, List.map_nil]); first | done | rfl | (simp only [List.length_drop, List.length_take]; rfl)) ?_; (with_reducible refine (r03within.calls (l0_10.length : Int) 1 32 true _ A37.out).mono ?_); rintro e w' ⟨rfl, ⟨nd, rfl⟩⟩; refine ⟨_, rfl, ?_⟩) | (go_at_call 65; (with_reducible refine (r03owned.calls kj13 a0_0 a0_1 a0_2 a0_3 a0_4 a0_5 a0_6 a0_7 a0_8 a0_9 _ _ l0_10 false _ ?side1 ?side2 A39.out).mono ?_); (case side1 => repeat (first | exact (Kd.C_below HR0_10.out bel_) | (with_reducible refine Kd.C_alloc ?_ _) | (with_reducible refine Kd.C_drewN ?_ _) | (with_reducible refine Kd.C_drew ?_))); (case side2 => exact HC0_10.out); rintro e w44 ⟨rfl, hb⟩; have n0_ := Sd.mk (blk_below (g := gb151) blk_ hb); have n1_ := Sd.mk (below_step bel_ hb); clear BK151; clear HB; have BK151 := n0_; have HB := n1_; clear n0_ n1_; (try clear hb); (try clear hb2); (try clear hk); (try clear hi)))
          go_ret
          exact ⟨by first | rfl | (simp [errW_none, errW_some] <;> rfl) | (simp [*, errW_none, errW_some] <;> rfl), bel_⟩
        ·
         replace c38 := Bool.eq_false_iff.mpr c38
         subst c38
         have H1 : (some 11) = some r := by rw [if_neg (show ¬ (false = true) by decide)] at H; exact H
         clear H
         have H := H1
         clear H1
         obtain rfl := Option.some.inj H
         obtain ⟨z45_0, z45_1, z45_2, z45_3, z45_4, z45_5, z45_6, z45_7, z45_8, z45_9, z45_10, j45_0, j45_1, j45_2, j45_3, j45_4, j45_5, j45_6, j45_7, j45_8, j45_9, j45_10⟩ := cells11 BK151.out
         go_wp2_with (first | ((with_reducible refine gate_callee (f := 64) rfl ?_); refine goesL_ (some 79) rfl rfl Try.func64 (by kernel_rfl) rfl #[.int .i64 (l0_10.length : Int), .int .i64 1, .int .i64 32] rfl (by (try simp only [List.map_toArray, List.map_cons, List.map_nil]); first | done | rfl | (simp only [List.length_drop, List.length_take]; rfl)) ?_; (with_reducible refine (r03within.calls (l0_10.length : Int) 1 32 false _ A37.out).mono ?_); rintro e w' ⟨rfl, ⟨nd, rfl⟩⟩; refine ⟨_, rfl, ?_⟩))
         go_ret
         exact ⟨by first | rfl | (simp [errW_none, errW_some] <;> rfl) | (simp [*, errW_none, errW_some] <;> rfl), bel_⟩
    ·
     replace c13 := Bool.eq_false_iff.mpr c13
     subst c13
     have H1 : (some 10) = some r := by rw [if_neg (show ¬ (false = true) by decide)] at H; exact H
     clear H
     have H := H1
     clear H1
     obtain rfl := Option.some.inj H
     obtain ⟨z46_0, z46_1, z46_2, z46_3, z46_4, z46_5, z46_6, z46_7, z46_8, z46_9, z46_10, j46_0, j46_1, j46_2, j46_3, j46_4, j46_5, j46_6, j46_7, j46_8, j46_9, j46_10⟩ := cells11 BK151.out
     go_wp2_with (first | ((with_reducible refine gate_callee (f := 64) rfl ?_); refine goesL_ (some 23) rfl rfl Try.func64 (by kernel_rfl) rfl #[.int .i64 a0_2, .int .i64 1, .int .i64 4] rfl (by (try simp only [List.map_toArray, List.map_cons, List.map_nil]); first | done | rfl | (simp only [List.length_drop, List.length_take]; rfl)) ?_; (with_reducible refine (r03within.calls a0_2 1 4 false _ A12.out).mono ?_); rintro e w' ⟨rfl, ⟨nd, rfl⟩⟩; refine ⟨_, rfl, ?_⟩))
     go_ret
     exact ⟨by first | rfl | (simp [errW_none, errW_some] <;> rfl) | (simp [*, errW_none, errW_some] <;> rfl), bel_⟩
end Go.Proofs.Ytbfnkdgjcpcmbaa.X
