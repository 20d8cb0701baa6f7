import Derived.Test.YtmdnmofcgmmfbaaYTraceReads30
import Derived.Test.YtmdnmofcgmmfbaaYTraceReads36
set_option maxHeartbeats 8000000
set_option maxRecDepth 100000
namespace Go.Proofs.Ytmdnmofcgmmfbaa.T
open Go.RowKit Go.Proofs.YtmdnmofcgmmfbaaW.PrintWords Go.Proofs.YtmdnmofcgmmfbaaW.PrintLast Go.Proofs.YtmdnmofcgmmfbaaW.PrintMore
attribute [local go_sem] max2_int min2_int max_two min_two max_three min_three max_four min_four   -- for this text's walks alone
set_option linter.unusedVariables false
set_option linter.unusedSimpArgs false
theorem q40R {A B : Prop} (h : A) (q : A → B := by intro h_; (with_reducible repeat (first | apply Kd.R_alloc | apply Kd.R_drewN | apply Kd.R_drew)); exact h_) : B := q h
def l36TraceCycles.f (k : Nat) (l0 : List (List (S28))) (a1 : Int) : Option (Bool) := (r36Few.f k l0 200).bind fun t314 => (if t314 = true then ((trace_Cycles.f l0 a1).bind fun t316 => ((r36Cycles.f k l0 a1).bind fun t319 => ((r36Same.f k t316 t319).bind fun t322 => (if t322 = true then ((l36known.f k).bind fun t323 => (some t323)) else (some false))))) else ((l36known.f k).bind fun t315 => (some t315)))
theorem l36TraceCycles.calls (k : Nat) (A0 : Option Addr) (c0 : Nat) (l0 : List (List (S28))) (a1 : Int) (r : Bool) (w : World) (hr0 : Kd.C (Kd.slice 28 k28) w A0 l0.length l0) (hc0 : l0.length ≤ c0) (h : l36TraceCycles.f k l0 a1 = some r) (hT : Sd (r = true) := by first | exact ⟨rfl⟩ | assumption) :
  Calls Try.prog 4 #[.slice A0 l0.length c0, .int .i64 a1] w fun e w' => e = .returned (.bool r) ∧ Below w.heap.size w w' := by
 have HR0 := Sd.mk hr0
 have HC0 := Sd.mk hc0
 clear hr0 hc0
 have HB := Sd.mk (Below.refl w.heap.size w)
 have H : ((r36Few.f k l0 200).bind fun t314 => (if t314 = true then ((trace_Cycles.f l0 a1).bind fun t316 => ((r36Cycles.f k l0 a1).bind fun t319 => ((r36Same.f k t316 t319).bind fun t322 => (if t322 = true then ((l36known.f k).bind fun t323 => (some t323)) else (some false))))) else ((l36known.f k).bind fun t315 => (some t315)))) = some r := h
 clear h
 replace H := Option.bind_eq_some_iff.mp H
 obtain ⟨t314, A30, H⟩ := H
 replace H : (if t314 = true then ((trace_Cycles.f l0 a1).bind fun t316 => ((r36Cycles.f k l0 a1).bind fun t319 => ((r36Same.f k t316 t319).bind fun t322 => (if t322 = true then ((l36known.f k).bind fun t323 => (some t323)) else (some false))))) else ((l36known.f k).bind fun t315 => (some t315))) = some r := H
 have A3 := Sd.mk A30
 clear A30
 by_cases c4 : t314 = true
 ·
  subst c4
  have H1 : ((trace_Cycles.f l0 a1).bind fun t316 => ((r36Cycles.f k l0 a1).bind fun t319 => ((r36Same.f k t316 t319).bind fun t322 => (if t322 = true then ((l36known.f k).bind fun t323 => (some t323)) else (some false))))) = some r := by rw [if_pos rfl] at H; exact H
  clear H
  have H := H1
  clear H1
  replace H := Option.bind_eq_some_iff.mp H
  obtain ⟨t316, A50, H⟩ := H
  replace H : ((r36Cycles.f k l0 a1).bind fun t319 => ((r36Same.f k t316 t319).bind fun t322 => (if t322 = true then ((l36known.f k).bind fun t323 => (some t323)) else (some false)))) = some r := H
  have A5 := Sd.mk A50
  clear A50
  replace H := Option.bind_eq_some_iff.mp H
  obtain ⟨t319, A60, H⟩ := H
  replace H : ((r36Same.f k t316 t319).bind fun t322 => (if t322 = true then ((l36known.f k).bind fun t323 => (some t323)) else (some false))) = some r := H
  have A6 := Sd.mk A60
  clear A60
  replace H := Option.bind_eq_some_iff.mp H
  obtain ⟨t322, A70, H⟩ := H
  replace H : (if t322 = true then ((l36known.f k).bind fun t323 => (some t323)) else (some false)) = some r := H
  have A7 := Sd.mk A70
  clear A70
  by_cases c8 : t322 = true
  ·
   subst c8
   have H1 : ((l36known.f k).bind fun t323 => (some t323)) = some r := by rw [if_pos rfl] at H; exact H
   clear H
   have H := H1
   clear H1
   replace H := Option.bind_eq_some_iff.mp H
   obtain ⟨t323, A90, H⟩ := H
   replace H : (some t323) = some r := H
   have A9 := Sd.mk A90
   clear A90
   obtain rfl := Option.some.inj H
   go_enter Try.func4, Try.ntmps4
   go_wp2_with (first | ((with_reducible refine gate_callee (f := 9) rfl ?_); refine goesL_ (some 6) rfl rfl Try.func9 (by kernel_rfl) rfl #[.slice A0 l0.length c0, .int .i64 200] rfl (by (try simp only [List.map_toArray, List.map_cons, List.map_nil]); first | done | rfl | (simp only [List.length_drop, List.length_take]; rfl)) ?_; (with_reducible refine (r36Few.calls k _ _ l0 200 true _ ?side1 ?side2 A3.out).mono ?_); (case side1 => repeat (first | exact HR0.out | (with_reducible refine Kd.C_alloc ?_ _) | (with_reducible refine Kd.C_drewN ?_ _) | (with_reducible refine Kd.C_drew ?_))); (case side2 => exact HC0.out); rintro e w' ⟨rfl, ⟨nd, rfl⟩⟩; refine ⟨_, rfl, ?_⟩) | ((with_reducible refine gate_callee (f := 23) rfl ?_); refine goesL_ (some 11) rfl rfl Try.func23 (by kernel_rfl) rfl #[.slice A0 l0.length c0, .int .i64 a1] rfl (by (try simp only [List.map_toArray, List.map_cons, List.map_nil]); first | done | rfl | (simp only [List.length_drop, List.length_take]; rfl)) ?_; (with_reducible refine (trace_Cycles.calls _ _ l0 a1 t316 _ ?side1 ?side2 A5.out).mono ?_); (case side1 => repeat (first | exact HR0.out | (with_reducible refine Kd.C_alloc ?_ _) | (with_reducible refine Kd.C_drewN ?_ _) | (with_reducible refine Kd.C_drew ?_))); (case side2 => exact HC0.out); rintro e w10 ⟨v317, rfl, ho0, hb⟩; refine ⟨_, rfl, ?_⟩; have n0_ := Sd.mk (Kd.S_lower ho0 (below_size bel_)); have n1_ := Sd.mk (below_step bel_ hb); clear HB; have HO318 := n0_; have HB := n1_; clear n0_ n1_; (try clear hb); (try clear hb2); (try clear hk); (try clear hi); (try clear ho0)) | ((with_reducible refine gate_callee (f := 24) rfl ?_); refine goesL_ (some 14) rfl rfl Try.func24 (by kernel_rfl) rfl #[.slice A0 l0.length c0, .int .i64 a1] rfl (by (try simp only [List.map_toArray, List.map_cons, List.map_nil]); first | done | rfl | (simp only [List.length_drop, List.length_take]; rfl)) ?_; (with_reducible refine (r36Cycles.calls k _ _ l0 a1 t319 _ ?side1 ?side2 A6.out).mono ?_); (case side1 => repeat (first | exact (Kd.C_below HR0.out HB.out) | (with_reducible refine Kd.C_alloc ?_ _) | (with_reducible refine Kd.C_drewN ?_ _) | (with_reducible refine Kd.C_drew ?_))); (case side2 => exact HC0.out); rintro e w11 ⟨v320, rfl, ho0, hb⟩; refine ⟨_, rfl, ?_⟩; have n0_ := Sd.mk (Kd.S_elder' (by (with_reducible repeat (first | apply Kd.S_alloc | apply Kd.S_drewN | apply Kd.S_drew)); exact HO318.out) (Kd.S_base ho0) hb); have n1_ := Sd.mk (Kd.S_lower (Kd.S_new' ho0 (Kd.S_lt (by (with_reducible repeat (first | apply Kd.S_alloc | apply Kd.S_drewN | apply Kd.S_drew)); exact HO318.out))) (below_size bel_)); have n2_ := Sd.mk (below_step bel_ hb); clear HO318; clear HB; have HO318 := n0_; have HO321 := n1_; have HB := n2_; clear n0_ n1_ n2_; (try clear hb); (try clear hb2); (try clear hk); (try clear hi); (try clear ho0); obtain ⟨Ao12, co12, eo12⟩ := Kd.S_slice HO318.out; subst eo12; obtain ⟨Ao13, co13, eo13⟩ := Kd.S_slice HO321.out; subst eo13) | ((with_reducible refine gate_callee (f := 22) rfl ?_); refine goesL_ (some 15) rfl rfl Try.func22 (by kernel_rfl) rfl #[.slice Ao12 t316.length co12, .slice Ao13 t319.length co13] rfl (by (try simp only [List.map_toArray, List.map_cons, List.map_nil]); first | done | rfl | (simp only [List.length_drop, List.length_take]; rfl)) ?_; (with_reducible refine (r36Same.calls k _ _ t316 _ _ t319 true _ ?side1 ?side2 ?side3 ?side4 A7.out).mono ?_); (case side1 => repeat (first | exact (Kd.S_reads' HO318.out).2.2 | (with_reducible refine Kd.C_alloc ?_ _) | (with_reducible refine Kd.C_drewN ?_ _) | (with_reducible refine Kd.C_drew ?_))); (case side2 => exact (Kd.S_reads' HO318.out).2.1); (case side3 => repeat (first | exact (Kd.S_reads' HO321.out).2.2 | (with_reducible refine Kd.C_alloc ?_ _) | (with_reducible refine Kd.C_drewN ?_ _) | (with_reducible refine Kd.C_drew ?_))); (case side4 => exact (Kd.S_reads' HO321.out).2.1); rintro e w14 ⟨rfl, hb⟩; refine ⟨_, rfl, ?_⟩; have n0_ := Sd.mk (Kd.S_below (by (with_reducible repeat (first | apply Kd.S_alloc | apply Kd.S_drewN | apply Kd.S_drew)); exact HO318.out) hb); have n1_ := Sd.mk (Kd.S_below (by (with_reducible repeat (first | apply Kd.S_alloc | apply Kd.S_drewN | apply Kd.S_drew)); exact HO321.out) hb); have n2_ := Sd.mk (below_step bel_ hb); clear HO318; clear HO321; clear HB; have HO318 := n0_; have HO321 := n1_; have HB := n2_; clear n0_ n1_ n2_; (try clear hb); (try clear hb2); (try clear hk); (try clear hi)) | (go_at_call 10; (with_reducible refine (l36known.calls k  t323 _ A9.out).mono ?_); rintro e w15 ⟨rfl, hb⟩; have n0_ := Sd.mk (Kd.S_below (by (with_reducible repeat (first | apply Kd.S_alloc | apply Kd.S_drewN | apply Kd.S_drew)); exact HO318.out) hb); have n1_ := Sd.mk (Kd.S_below (by (with_reducible repeat (first | apply Kd.S_alloc | apply Kd.S_drewN | apply Kd.S_drew)); exact HO321.out) hb); have n2_ := Sd.mk (below_step bel_ hb); clear HO318; clear HO321; clear HB; have HO318 := n0_; have HO321 := n1_; have HB := n2_; clear n0_ n1_ n2_; (try clear hb); (try clear hb2); (try clear hk); (try clear hi)))
   go_ret
   exact ⟨by first | rfl | (simp [errW_none, errW_some] <;> rfl) | (simp [*, errW_none, errW_some] <;> rfl), bel_⟩
  ·
   replace c8 := Bool.eq_false_iff.mpr c8
   subst c8
   have H1 : (some false) = some r := by rw [if_neg (show ¬ (false = true) by decide)] at H; exact H
   clear H
   have H := H1
   clear H1
   (have H3_ := Option.some.inj H; have H4_ := hT.out; rw [← H3_] at H4_; exact absurd H4_ (by decide))
 ·
  replace c4 := Bool.eq_false_iff.mpr c4
  subst c4
  have H1 : ((l36known.f k).bind fun t315 => (some t315)) = some r := by rw [if_neg (show ¬ (false = true) by decide)] at H; exact H
  clear H
  have H := H1
  clear H1
  replace H := Option.bind_eq_some_iff.mp H
  obtain ⟨t315, A160, H⟩ := H
  replace H : (some t315) = some r := H
  have A16 := Sd.mk A160
  clear A160
  obtain rfl := Option.some.inj H
  go_enter Try.func4, Try.ntmps4
  go_wp2_with (first | ((with_reducible refine gate_callee (f := 9) rfl ?_); refine goesL_ (some 6) rfl rfl Try.func9 (by kernel_rfl) rfl #[.slice A0 l0.length c0, .int .i64 200] rfl (by (try simp only [List.map_toArray, List.map_cons, List.map_nil]); first | done | rfl | (simp only [List.length_drop, List.length_take]; rfl)) ?_; (with_reducible refine (r36Few.calls k _ _ l0 200 false _ ?side1 ?side2 A3.out).mono ?_); (case side1 => repeat (first | exact HR0.out | (with_reducible refine Kd.C_alloc ?_ _) | (with_reducible refine Kd.C_drewN ?_ _) | (with_reducible refine Kd.C_drew ?_))); (case side2 => exact HC0.out); rintro e w' ⟨rfl, ⟨nd, rfl⟩⟩; refine ⟨_, rfl, ?_⟩) | ((with_reducible refine gate_callee (f := 10) rfl ?_); refine goesL_ (some 8) rfl rfl Try.func10 (by kernel_rfl) rfl #[] rfl (by (try simp only [List.map_toArray, List.map_cons, List.map_nil]); first | done | rfl | (simp only [List.length_drop, List.length_take]; rfl)) ?_; (with_reducible refine (l36known.calls k  t315 _ A16.out).mono ?_); rintro e w17 ⟨rfl, hb⟩; refine ⟨_, rfl, ?_⟩; have n0_ := Sd.mk (below_step bel_ hb); clear HB; have HB := n0_; clear n0_; (try clear hb); (try clear hb2); (try clear hk); (try clear hi)))
  go_ret
  exact ⟨by first | rfl | (simp [errW_none, errW_some] <;> rfl) | (simp [*, errW_none, errW_some] <;> rfl), bel_⟩
def l36TraceAll.l0 : Nat → List (List (S28)) → Int → List Int → List (S40) → List (S53) → Int → Option (Bool)
 | 0, _, _, _, _, _, _ => none
 | k + 1, x0, x1, x5, x6, x7, x8 => if x8 < (x6.length : Int) then (if 0 ≤ x8 then (if x8 < (x5.length : Int) then (if ((rd_T40 x6 x8).f0) = (rd x5 x8) then (if x7.length + ((rd_T40 x6 x8).f4).length < 3518437208883 then (l36TraceAll.l0 k x0 x1 x5 x6 (x7 ++ ((rd_T40 x6 x8).f4)) (wrap64 (x8 + 1))) else (none)) else (some false)) else (none)) else (none)) else (if (x5.length : Int) = 0 then (if (x7.length : Int) = 0 then ((l36known.f k).bind fun t338 => (some t338)) else (some false)) else (if 0 < (x5.length : Int) then ((trace_Got.f x0 x1 (rd x5 0) (x0.length : Int)).bind fun t340 => ((r24Same.f k x7 t340).bind fun t343 => (if t343 = true then ((l36known.f k).bind fun t344 => (some t344)) else (some false)))) else (none)))
def l36TraceAll.f (k : Nat) (l0 : List (List (S28))) (a1 : Int) : Option (Bool) := (r36Few.f k l0 200).bind fun t324 => (if t324 = true then ((trace_Pulses.f l0 a1).bind fun t326 => ((trace_Cycles.f l0 a1).bind fun t329 => (if (t326.length : Int) = (t329.length : Int) then (l36TraceAll.l0 k l0 a1 t326 t329 ([] : List (S53)) 0) else (some false)))) else ((l36known.f k).bind fun t325 => (some t325)))
theorem l36TraceAll.calls (k : Nat) (A0 : Option Addr) (c0 : Nat) (l0 : List (List (S28))) (a1 : Int) (r : Bool) (w : World) (hr0 : Kd.C (Kd.slice 28 k28) w A0 l0.length l0) (hc0 : l0.length ≤ c0) (h : l36TraceAll.f k l0 a1 = some r) (hT : Sd (r = true) := by first | exact ⟨rfl⟩ | assumption) :
  Calls Try.prog 5 #[.slice A0 l0.length c0, .int .i64 a1] w fun e w' => e = .returned (.bool r) ∧ Below w.heap.size w w' := by
 have HR0 := Sd.mk hr0
 have HC0 := Sd.mk hc0
 clear hr0 hc0
 have HB := Sd.mk (Below.refl w.heap.size w)
 have H : ((r36Few.f k l0 200).bind fun t324 => (if t324 = true then ((trace_Pulses.f l0 a1).bind fun t326 => ((trace_Cycles.f l0 a1).bind fun t329 => (if (t326.length : Int) = (t329.length : Int) then (l36TraceAll.l0 k l0 a1 t326 t329 ([] : List (S53)) 0) else (some false)))) else ((l36known.f k).bind fun t325 => (some t325)))) = some r := h
 clear h
 replace H := Option.bind_eq_some_iff.mp H
 obtain ⟨t324, A30, H⟩ := H
 replace H : (if t324 = true then ((trace_Pulses.f l0 a1).bind fun t326 => ((trace_Cycles.f l0 a1).bind fun t329 => (if (t326.length : Int) = (t329.length : Int) then (l36TraceAll.l0 k l0 a1 t326 t329 ([] : List (S53)) 0) else (some false)))) else ((l36known.f k).bind fun t325 => (some t325))) = some r := H
 have A3 := Sd.mk A30
 clear A30
 by_cases c4 : t324 = true
 ·
  subst c4
  have H1 : ((trace_Pulses.f l0 a1).bind fun t326 => ((trace_Cycles.f l0 a1).bind fun t329 => (if (t326.length : Int) = (t329.length : Int) then (l36TraceAll.l0 k l0 a1 t326 t329 ([] : List (S53)) 0) else (some false)))) = some r := by rw [if_pos rfl] at H; exact H
  clear H
  have H := H1
  clear H1
  replace H := Option.bind_eq_some_iff.mp H
  obtain ⟨t326, A50, H⟩ := H
  replace H : ((trace_Cycles.f l0 a1).bind fun t329 => (if (t326.length : Int) = (t329.length : Int) then (l36TraceAll.l0 k l0 a1 t326 t329 ([] : List (S53)) 0) else (some false))) = some r := H
  have A5 := Sd.mk A50
  clear A50
  replace H := Option.bind_eq_some_iff.mp H
  obtain ⟨t329, A60, H⟩ := H
  replace H : (if (t326.length : Int) = (t329.length : Int) then (l36TraceAll.l0 k l0 a1 t326 t329 ([] : List (S53)) 0) else (some false)) = some r := H
  have A6 := Sd.mk A60
  clear A60
  by_cases c7 : (t326.length : Int) = (t329.length : Int)
  ·
   rw [if_pos c7] at H
   have c7b0 : ((t326.length : Int) == (t329.length : Int)) = true := beq_iff_eq.mpr c7
   have c7b1 : ((t326.length : Int) != (t329.length : Int)) = false := bne_eq_false_iff_eq.mpr c7
   have c7b2 : (t326.length == t329.length) = true := by first | simpa using c7 | (simp at c7 ⊢; omega)
   clear c7
   have H' := Sd.mk H
   clear H
   go_enter Try.func5, Try.ntmps5
   go_wp2_with (first | (go_at_call 9; (with_reducible refine (r36Few.calls k _ _ l0 200 true _ ?side1 ?side2 A3.out).mono ?_); (case side1 => repeat (first | exact HR0.out | (with_reducible refine Kd.C_alloc ?_ _) | (with_reducible refine Kd.C_drewN ?_ _) | (with_reducible refine Kd.C_drew ?_))); (case side2 => exact HC0.out); rintro e w' ⟨rfl, ⟨nd, rfl⟩⟩; (try first | exact ⟨rfl, _, World.drewN_drewN _ _ _⟩ | exact ⟨rfl, _, Eq.trans (World.drewN_drewN _ _ _) (congrArg (World.drewN _) (Nat.add_assoc _ _ _))⟩)) | (go_at_call 15; (with_reducible refine (trace_Pulses.calls _ _ l0 a1 t326 _ ?side1 ?side2 A5.out).mono ?_); (case side1 => repeat (first | exact HR0.out | (with_reducible refine Kd.C_alloc ?_ _) | (with_reducible refine Kd.C_drewN ?_ _) | (with_reducible refine Kd.C_drew ?_))); (case side2 => exact HC0.out); rintro e w8 ⟨v327, rfl, ho0, hb⟩; have n0_ := Sd.mk (Kd.R_lower ho0 (below_size bel_)); have n1_ := Sd.mk (below_step bel_ hb); clear HB; have HO328 := n0_; have HB := n1_; clear n0_ n1_; (try clear hb); (try clear hb2); (try clear hk); (try clear hi); (try clear ho0)) | (go_at_call 23; (with_reducible refine (trace_Cycles.calls _ _ l0 a1 t329 _ ?side1 ?side2 A6.out).mono ?_); (case side1 => repeat (first | exact (Kd.C_below HR0.out HB.out) | (with_reducible refine Kd.C_alloc ?_ _) | (with_reducible refine Kd.C_drewN ?_ _) | (with_reducible refine Kd.C_drew ?_))); (case side2 => exact HC0.out); rintro e w9 ⟨v330, rfl, ho0, hb⟩; have n0_ := Sd.mk (Kd.R_below (q40R HO328.out) hb); have n1_ := Sd.mk (Kd.S_lower ho0 (below_size bel_)); have n2_ := Sd.mk (below_step bel_ hb); clear HO328; clear HB; have HO328 := n0_; have HO331 := n1_; have HB := n2_; clear n0_ n1_ n2_; (try clear hb); (try clear hb2); (try clear hk); (try clear hi); (try clear ho0); obtain ⟨Ao10, co10, eo10⟩ := Kd.R_slice HO328.out; subst eo10; obtain ⟨Ao11, co11, eo11⟩ := Kd.S_slice HO331.out; subst eo11))
   repeat (go_quiet (first | (go_at_call 9; (with_reducible refine (r36Few.calls k _ _ l0 200 true _ ?side1 ?side2 A3.out).mono ?_); (case side1 => repeat (first | exact HR0.out | (with_reducible refine Kd.C_alloc ?_ _) | (with_reducible refine Kd.C_drewN ?_ _) | (with_reducible refine Kd.C_drew ?_))); (case side2 => exact HC0.out); rintro e w' ⟨rfl, ⟨nd, rfl⟩⟩; (try first | exact ⟨rfl, _, World.drewN_drewN _ _ _⟩ | exact ⟨rfl, _, Eq.trans (World.drewN_drewN _ _ _) (congrArg (World.drewN _) (Nat.add_assoc _ _ _))⟩)) | (go_at_call 15; (with_reducible refine (trace_Pulses.calls _ _ l0 a1 t326 _ ?side1 ?side2 A5.out).mono ?_); (case side1 => repeat (first | exact HR0.out | (with_reducible refine Kd.C_alloc ?_ _) | (with_reducible refine Kd.C_drewN ?_ _) | (with_reducible refine Kd.C_drew ?_))); (case side2 => exact HC0.out); rintro e w8 ⟨v327, rfl, ho0, hb⟩; have n0_ := Sd.mk (Kd.R_lower ho0 (below_size bel_)); have n1_ := Sd.mk (below_step bel_ hb); clear HB; have HO328 := n0_; have HB := n1_; clear n0_ n1_; (try clear hb); (try clear hb2); (try clear hk); (try clear hi); (try clear ho0)) | (go_at_call 23; (with_reducible refine (trace_Cycles.calls _ _ l0 a1 t329 _ ?side1 ?side2 A6.out).mono ?_); (case side1 => repeat (first | exact (Kd.C_below HR0.out HB.out) | (with_reducible refine Kd.C_alloc ?_ _) | (with_reducible refine Kd.C_drewN ?_ _) | (with_reducible refine Kd.C_drew ?_))); (case side2 => exact HC0.out); rintro e w9 ⟨v330, rfl, ho0, hb⟩; have n0_ := Sd.mk (Kd.R_below (q40R HO328.out) hb); have n1_ := Sd.mk (Kd.S_lower ho0 (below_size bel_)); have n2_ := Sd.mk (below_step bel_ hb); clear HO328; clear HB; have HO328 := n0_; have HO331 := n1_; have HB := n2_; clear n0_ n1_ n2_; (try clear hb); (try clear hb2); (try clear hk); (try clear hi); (try clear ho0); obtain ⟨Ao10, co10, eo10⟩ := Kd.R_slice HO328.out; subst eo10; obtain ⟨Ao11, co11, eo11⟩ := Kd.S_slice HO331.out; subst eo11)); try go_wp2_with (first | (go_at_call 9; (with_reducible refine (r36Few.calls k _ _ l0 200 true _ ?side1 ?side2 A3.out).mono ?_); (case side1 => repeat (first | exact HR0.out | (with_reducible refine Kd.C_alloc ?_ _) | (with_reducible refine Kd.C_drewN ?_ _) | (with_reducible refine Kd.C_drew ?_))); (case side2 => exact HC0.out); rintro e w' ⟨rfl, ⟨nd, rfl⟩⟩; (try first | exact ⟨rfl, _, World.drewN_drewN _ _ _⟩ | exact ⟨rfl, _, Eq.trans (World.drewN_drewN _ _ _) (congrArg (World.drewN _) (Nat.add_assoc _ _ _))⟩)) | (go_at_call 15; (with_reducible refine (trace_Pulses.calls _ _ l0 a1 t326 _ ?side1 ?side2 A5.out).mono ?_); (case side1 => repeat (first | exact HR0.out | (with_reducible refine Kd.C_alloc ?_ _) | (with_reducible refine Kd.C_drewN ?_ _) | (with_reducible refine Kd.C_drew ?_))); (case side2 => exact HC0.out); rintro e w8 ⟨v327, rfl, ho0, hb⟩; have n0_ := Sd.mk (Kd.R_lower ho0 (below_size bel_)); have n1_ := Sd.mk (below_step bel_ hb); clear HB; have HO328 := n0_; have HB := n1_; clear n0_ n1_; (try clear hb); (try clear hb2); (try clear hk); (try clear hi); (try clear ho0)) | (go_at_call 23; (with_reducible refine (trace_Cycles.calls _ _ l0 a1 t329 _ ?side1 ?side2 A6.out).mono ?_); (case side1 => repeat (first | exact (Kd.C_below HR0.out HB.out) | (with_reducible refine Kd.C_alloc ?_ _) | (with_reducible refine Kd.C_drewN ?_ _) | (with_reducible refine Kd.C_drew ?_))); (case side2 => exact HC0.out); rintro e w9 ⟨v330, rfl, ho0, hb⟩; have n0_ := Sd.mk (Kd.R_below (q40R HO328.out) hb); have n1_ := Sd.mk (Kd.S_lower ho0 (below_size bel_)); have n2_ := Sd.mk (below_step bel_ hb); clear HO328; clear HB; have HO328 := n0_; have HO331 := n1_; have HB := n2_; clear n0_ n1_ n2_; (try clear hb); (try clear hb2); (try clear hk); (try clear hi); (try clear ho0); obtain ⟨Ao10, co10, eo10⟩ := Kd.R_slice HO328.out; subst eo10; obtain ⟨Ao11, co11, eo11⟩ := Kd.S_slice HO331.out; subst eo11)))
   go_loopg [7, 8] k (fun kq v7 v8 w' => ∃ (x7_1 : List (S53)) (x8_1 : Int), v8 = .int .i64 x8_1 ∧ Sd (l36TraceAll.l0 kq l0 a1 t326 t329 x7_1 x8_1 = some r) ∧ Sd (kq ≤ k) ∧ Sd (Kd.R (Kd.int .i64) 3 w' w.heap.size (fun _ => True) (.slice Ao10 t326.length co10) t326) ∧ Sd (Kd.S k40 40 w' w.heap.size (fun k_ => some k_ ≠ (v7 : Value).ownBlock) (.slice Ao11 t329.length co11) t329) ∧ Sd (Kd.R k53 53 w' w.heap.size (fun _ => True) v7 x7_1) ∧ Sd (Below w.heap.size w w'))
   case atStart => exact ⟨(([] : List (S53))), (0), (by first | rfl | (simp; done) | (simp [*]; done)), H', ⟨Nat.le_refl _⟩, ⟨by (with_reducible repeat (first | apply Kd.R_alloc | apply Kd.R_drewN | apply Kd.R_drew)); exact HO328.out⟩, ⟨by (with_reducible repeat (first | apply Kd.S_alloc | apply Kd.S_drewN | apply Kd.S_drew)); exact Kd.S_mono HO331.out (fun _ hk => (by simp [Value.ownBlock]))⟩, ⟨by first | exact Kd.R_nil _ _ _ _ _ | exact Kd.N_nil _ _ _ _ _ | exact Kd.V_nil _ _ _ _ _ | exact Kd.Q_nil _ _ _ _ _ | exact Kd.S_nil _ _ _ _ _⟩, ⟨bel_⟩⟩
   case round =>
    clear H'
    try clear p2
    try clear c4
    try clear c5
    try clear c7
    try clear c7b0
    try clear c7b1
    try clear c7b2
    obtain ⟨x7_1, x8_1, rfl, HA, HK1, HO_5, HO_6, HO_7, HB⟩ := hrel
    cases gk with
    | zero => exact absurd HA.out (by simp [l36TraceAll.l0])
    | succ k1 =>
     have H := HA.out
     clear HA
     simp only [l36TraceAll.l0] at H
     by_cases c12 : x8_1 < (t329.length : Int)
     ·
      rw [if_pos c12] at H
      have c12b0 : decide (x8_1 < (t329.length : Int)) = true := decide_eq_true c12
      clear c12
      by_cases c13 : 0 ≤ x8_1
      ·
       rw [if_pos c13] at H
       have c13b0 : decide (0 ≤ x8_1) = true := decide_eq_true c13
       clear c13
       by_cases c14 : x8_1 < (t326.length : Int)
       ·
        rw [if_pos c14] at H
        have c14b0 : decide (x8_1 < (t326.length : Int)) = true := decide_eq_true c14
        clear c14
        by_cases c15 : ((rd_T40 t329 x8_1).f0) = (rd t326 x8_1)
        ·
         rw [if_pos c15] at H
         have c15b0 : (((rd_T40 t329 x8_1).f0) == (rd t326 x8_1)) = true := beq_iff_eq.mpr c15
         have c15b1 : (((rd_T40 t329 x8_1).f0) != (rd t326 x8_1)) = false := bne_eq_false_iff_eq.mpr c15
         clear c15
         by_cases c16 : x7_1.length + ((rd_T40 t329 x8_1).f4).length < 3518437208883
         ·
          rw [if_pos c16] at H
          have LMc16 := Sd.mk c16
          clear c16
          obtain ⟨y335, hy335⟩ : ∃ y_ : List (S53), y_ = (x7_1 ++ ((rd_T40 t329 x8_1).f4)) := ⟨_, rfl⟩
          replace H : (l36TraceAll.l0 k1 l0 a1 t326 t329 y335 (wrap64 (x8_1 + 1))) = some r := by first | (rw [hy335]; with_reducible exact H) | (have H2_ := (Option.bind_some _ _).symm.trans H; rw [hy335]; with_reducible exact H2_) | (have H2_ := (Option.bind_some _ _).symm.trans H; with_reducible exact H2_) | with_reducible exact H | (rw [hy335]; exact H) | exact H
          have Ny335 := Sd.mk hy335
          clear hy335
          have H' := Sd.mk H
          clear H
          have p332 : 0 ≤ (x8_1 : Int) := of_decide_eq_true (by first | (with_reducible assumption) | assumption)
          have q332 : x8_1 < (t329.length : Int) := of_decide_eq_true (by first | (with_reducible assumption) | assumption)
          obtain ⟨ad332, A332_4, c332_4, e332, hx332_0, hx332_1, hx332_2, hx332_3, hx332_4, hl332_4, hi332_4⟩ := at_T40 (Kd.S_reads' HO_6.out).2.2 x8_1 p332 q332
          cases e332
          obtain ⟨ce332, hce332, hMe332, hcc332⟩ := Kd.S_get HO_6.out z40 x8_1 p332 (by first | exact q332 | exact of_decide_eq_true (by first | (with_reducible assumption) | assumption) | (have e_ := (Kd.S_reads' HO_6.out).1; omega))
          obtain ⟨ve332_4, rfl, ge332_4⟩ := k40_openM hMe332
          have hv332_4 := hcc332 4 _ rfl
          rw [add_field _ _ 4 (by omega)] at hv332_4
          replace hv332_4 := Option.some.inj (hv332_4.symm.trans hx332_4)
          rw [hv332_4] at ge332_4
          have HL332_4 := Sd.mk (show Kd.R k53 53 _ _ _ _ ((rd_T40 t329 x8_1).f4) from ge332_4)
          clear hv332_4 ge332_4
          clear hcc332 hce332
          have HR332_4 := Sd.mk hi332_4
          have HC332_4 := Sd.mk hl332_4
          clear hi332_4 hl332_4
          replace p332 := eq_true p332
          replace q332 := eq_true q332
          have p333 : 0 ≤ (x8_1 : Int) := of_decide_eq_true (by first | (with_reducible assumption) | assumption)
          have q333 : x8_1 < (t326.length : Int) := of_decide_eq_true (by first | (with_reducible assumption) | assumption)
          obtain ⟨ad333, e333, hx333_0⟩ := Kd.at_int (Kd.R_reads' HO_5.out).2.2 x8_1 p333 q333
          cases e333
          replace p333 := eq_true p333
          replace q333 := eq_true q333
          have p334 : 0 ≤ (x8_1 : Int) := of_decide_eq_true (by first | (with_reducible assumption) | assumption)
          have q334 : x8_1 < (t329.length : Int) := of_decide_eq_true (by first | (with_reducible assumption) | assumption)
          obtain ⟨ad334, A334_4, c334_4, e334, hx334_0, hx334_1, hx334_2, hx334_3, hx334_4, hl334_4, hi334_4⟩ := at_T40 (Kd.S_reads' HO_6.out).2.2 x8_1 p334 q334
          obtain rfl : ad332 = ad334 := (by injection e334)
          obtain ⟨ce334, hce334, hMe334, hcc334⟩ := Kd.S_get HO_6.out z40 x8_1 p334 (by first | exact q334 | exact of_decide_eq_true (by first | (with_reducible assumption) | assumption) | (have e_ := (Kd.S_reads' HO_6.out).1; omega))
          obtain ⟨ve334_4, rfl, ge334_4⟩ := k40_openM hMe334
          have hv334_4 := hcc334 4 _ rfl
          rw [add_field _ _ 4 (by omega)] at hv334_4
          replace hv334_4 := Option.some.inj (hv334_4.symm.trans hx334_4)
          rw [hv334_4] at ge334_4
          have HL334_4 := Sd.mk (show Kd.R k53 53 _ _ _ _ ((rd_T40 t329 x8_1).f4) from ge334_4)
          clear hv334_4 ge334_4
          clear hcc334 hce334
          have HR334_4 := Sd.mk hi334_4
          have HC334_4 := Sd.mk hl334_4
          clear hi334_4 hl334_4
          replace p334 := eq_true p334
          replace q334 := eq_true q334
          have ea_ := Option.some.inj (hx332_4.symm.trans hx334_4)
          injection ea_ with ea_ en_ ec_
          subst ea_
          subst ec_
          clear en_
          go_wp2_with (first | ((with_reducible refine gate_builtin (b := .append) (xs := #[.tmp 40, .tmp 45]) rfl ?_); at_builtin; refine Kd.R_append_rows k53 (w0 := w) w.heap.size rfl (.tmp 40) (.tmp 45) 26 53 (.agg #[(.int .i64 0), (.int .i64 0), (.int .i64 0), (.string ⟨#[]⟩)]) 40 rfl Try.underlying26 info53 rfl (by decide) (by omega) u7 x7_1 ((rd_T40 t329 x8_1).f4) _ _ _ (fun _ => True) (fun _ => False) rfl rfl ?aO ?aR (fun _ _ h => h) (fun _ h => h.elim) ?aF ?aB ?aS ?aL ?_; (case aR => repeat (first | exact (by repeat (first | (with_reducible exact HR334_4.out) | (with_reducible refine Kd.C_alloc ?_ _) | (with_reducible refine Kd.C_drewN ?_ _) | (with_reducible refine Kd.C_drew ?_) | exact HR334_4.out)) | (with_reducible refine Kd.C_alloc ?_ _) | (with_reducible refine Kd.C_drewN ?_ _) | (with_reducible refine Kd.C_drew ?_))); (case aB => exact bel_); (case aF => exact (fun _ _ => trivial)); (case aO => exact (q40R HO_7.out)); (case aS => exact (below_size bel_)); (case aL => have := LMc16.out; omega); intro v336 w17 ho hb hg hat; rw [← Ny335.out] at ho; have n0_ := Sd.mk (Kd.R_over' (q40R HO_5.out) (Kd.R_typed (q40R HO_7.out)) (by decide) hg); have n1_ := Sd.mk (Kd.S_after (ok := (fun _ => True)) (by (with_reducible repeat (first | apply Kd.S_alloc | apply Kd.S_drewN | apply Kd.S_drew)); exact Kd.S_mono HO_6.out (fun _ hk => ⟨trivial, hk⟩)) hg hat); have n2_ := Sd.mk (Kd.R_after (ok := (fun k_ => some k_ ≠ (.slice (some ad332) t329.length co11 : Value).ownBlock)) (by (with_reducible repeat (first | apply Kd.R_alloc | apply Kd.R_drewN | apply Kd.R_drew)); exact Kd.R_mono HL332_4.out (fun _ hk => ⟨hk.2, hk.1⟩)) hg hat); have n3_ := Sd.mk (Kd.R_after (ok := (fun k_ => some k_ ≠ (.slice (some ad332) t329.length co11 : Value).ownBlock)) (by (with_reducible repeat (first | apply Kd.R_alloc | apply Kd.R_drewN | apply Kd.R_drew)); exact Kd.R_mono HL334_4.out (fun _ hk => ⟨hk.2, hk.1⟩)) hg hat); have n4_ := Sd.mk (hb); have n5_ := Sd.mk (ho); clear HO_5; clear HO_6; clear HL332_4; clear HL334_4; clear HB; clear HO_7; have HO_5 := n0_; have HO_6 := n1_; have HL332_4 := n2_; have HL334_4 := n3_; have HB := n4_; have HO337 := n5_; clear n0_ n1_ n2_ n3_ n4_ n5_; clear ho hb hg hat))
          repeat (go_quiet (first | ((with_reducible refine gate_builtin (b := .append) (xs := #[.tmp 40, .tmp 45]) rfl ?_); at_builtin; refine Kd.R_append_rows k53 (w0 := w) w.heap.size rfl (.tmp 40) (.tmp 45) 26 53 (.agg #[(.int .i64 0), (.int .i64 0), (.int .i64 0), (.string ⟨#[]⟩)]) 40 rfl Try.underlying26 info53 rfl (by decide) (by omega) u7 x7_1 ((rd_T40 t329 x8_1).f4) _ _ _ (fun _ => True) (fun _ => False) rfl rfl ?aO ?aR (fun _ _ h => h) (fun _ h => h.elim) ?aF ?aB ?aS ?aL ?_; (case aR => repeat (first | exact (by repeat (first | (with_reducible exact HR334_4.out) | (with_reducible refine Kd.C_alloc ?_ _) | (with_reducible refine Kd.C_drewN ?_ _) | (with_reducible refine Kd.C_drew ?_) | exact HR334_4.out)) | (with_reducible refine Kd.C_alloc ?_ _) | (with_reducible refine Kd.C_drewN ?_ _) | (with_reducible refine Kd.C_drew ?_))); (case aB => exact bel_); (case aF => exact (fun _ _ => trivial)); (case aO => exact (q40R HO_7.out)); (case aS => exact (below_size bel_)); (case aL => have := LMc16.out; omega); intro v336 w17 ho hb hg hat; rw [← Ny335.out] at ho; have n0_ := Sd.mk (Kd.R_over' (q40R HO_5.out) (Kd.R_typed (q40R HO_7.out)) (by decide) hg); have n1_ := Sd.mk (Kd.S_after (ok := (fun _ => True)) (by (with_reducible repeat (first | apply Kd.S_alloc | apply Kd.S_drewN | apply Kd.S_drew)); exact Kd.S_mono HO_6.out (fun _ hk => ⟨trivial, hk⟩)) hg hat); have n2_ := Sd.mk (Kd.R_after (ok := (fun k_ => some k_ ≠ (.slice (some ad332) t329.length co11 : Value).ownBlock)) (by (with_reducible repeat (first | apply Kd.R_alloc | apply Kd.R_drewN | apply Kd.R_drew)); exact Kd.R_mono HL332_4.out (fun _ hk => ⟨hk.2, hk.1⟩)) hg hat); have n3_ := Sd.mk (Kd.R_after (ok := (fun k_ => some k_ ≠ (.slice (some ad332) t329.length co11 : Value).ownBlock)) (by (with_reducible repeat (first | apply Kd.R_alloc | apply Kd.R_drewN | apply Kd.R_drew)); exact Kd.R_mono HL334_4.out (fun _ hk => ⟨hk.2, hk.1⟩)) hg hat); have n4_ := Sd.mk (hb); have n5_ := Sd.mk (ho); clear HO_5; clear HO_6; clear HL332_4; clear HL334_4; clear HB; clear HO_7; have HO_5 := n0_; have HO_6 := n1_; have HL332_4 := n2_; have HL334_4 := n3_; have HB := n4_; have HO337 := n5_; clear n0_ n1_ n2_ n3_ n4_ n5_; clear ho hb hg hat)); try go_wp2_with (first | ((with_reducible refine gate_builtin (b := .append) (xs := #[.tmp 40, .tmp 45]) rfl ?_); at_builtin; refine Kd.R_append_rows k53 (w0 := w) w.heap.size rfl (.tmp 40) (.tmp 45) 26 53 (.agg #[(.int .i64 0), (.int .i64 0), (.int .i64 0), (.string ⟨#[]⟩)]) 40 rfl Try.underlying26 info53 rfl (by decide) (by omega) u7 x7_1 ((rd_T40 t329 x8_1).f4) _ _ _ (fun _ => True) (fun _ => False) rfl rfl ?aO ?aR (fun _ _ h => h) (fun _ h => h.elim) ?aF ?aB ?aS ?aL ?_; (case aR => repeat (first | exact (by repeat (first | (with_reducible exact HR334_4.out) | (with_reducible refine Kd.C_alloc ?_ _) | (with_reducible refine Kd.C_drewN ?_ _) | (with_reducible refine Kd.C_drew ?_) | exact HR334_4.out)) | (with_reducible refine Kd.C_alloc ?_ _) | (with_reducible refine Kd.C_drewN ?_ _) | (with_reducible refine Kd.C_drew ?_))); (case aB => exact bel_); (case aF => exact (fun _ _ => trivial)); (case aO => exact (q40R HO_7.out)); (case aS => exact (below_size bel_)); (case aL => have := LMc16.out; omega); intro v336 w17 ho hb hg hat; rw [← Ny335.out] at ho; have n0_ := Sd.mk (Kd.R_over' (q40R HO_5.out) (Kd.R_typed (q40R HO_7.out)) (by decide) hg); have n1_ := Sd.mk (Kd.S_after (ok := (fun _ => True)) (by (with_reducible repeat (first | apply Kd.S_alloc | apply Kd.S_drewN | apply Kd.S_drew)); exact Kd.S_mono HO_6.out (fun _ hk => ⟨trivial, hk⟩)) hg hat); have n2_ := Sd.mk (Kd.R_after (ok := (fun k_ => some k_ ≠ (.slice (some ad332) t329.length co11 : Value).ownBlock)) (by (with_reducible repeat (first | apply Kd.R_alloc | apply Kd.R_drewN | apply Kd.R_drew)); exact Kd.R_mono HL332_4.out (fun _ hk => ⟨hk.2, hk.1⟩)) hg hat); have n3_ := Sd.mk (Kd.R_after (ok := (fun k_ => some k_ ≠ (.slice (some ad332) t329.length co11 : Value).ownBlock)) (by (with_reducible repeat (first | apply Kd.R_alloc | apply Kd.R_drewN | apply Kd.R_drew)); exact Kd.R_mono HL334_4.out (fun _ hk => ⟨hk.2, hk.1⟩)) hg hat); have n4_ := Sd.mk (hb); have n5_ := Sd.mk (ho); clear HO_5; clear HO_6; clear HL332_4; clear HL334_4; clear HB; clear HO_7; have HO_5 := n0_; have HO_6 := n1_; have HL332_4 := n2_; have HL334_4 := n3_; have HB := n4_; have HO337 := n5_; clear n0_ n1_ n2_ n3_ n4_ n5_; clear ho hb hg hat)))
          go_roundg k1
          case measure => have := HK1.out; omega
          case rel => exact ⟨(y335), (wrap64 (x8_1 + 1)), (by first | rfl | (simp; done) | (simp [*]; done)), H', ⟨by have := HK1.out; omega⟩, ⟨by (with_reducible repeat (first | apply Kd.R_alloc | apply Kd.R_drewN | apply Kd.R_drew)); exact HO_5.out⟩, ⟨by (with_reducible repeat (first | apply Kd.S_alloc | apply Kd.S_drewN | apply Kd.S_drew)); exact Kd.S_mono HO_6.out (fun _ hk => hk.2)⟩, ⟨by (with_reducible repeat (first | apply Kd.R_alloc | apply Kd.R_drewN | apply Kd.R_drew)); exact HO337.out⟩, ⟨bel_⟩⟩
         ·
          rw [if_neg c16] at H
          exact absurd H (by simp)
        ·
         rw [if_neg c15] at H
         have c15b0 : (((rd_T40 t329 x8_1).f0) == (rd t326 x8_1)) = false := beq_eq_false_iff_ne.mpr c15
         have c15b1 : (((rd_T40 t329 x8_1).f0) != (rd t326 x8_1)) = true := bne_iff_ne.mpr c15
         (have H3_ := Option.some.inj H; have H4_ := hT.out; rw [← H3_] at H4_; exact absurd H4_ (by decide))
       ·
        rw [if_neg c14] at H
        exact absurd H (by simp)
      ·
       rw [if_neg c13] at H
       exact absurd H (by simp)
     ·
      rw [if_neg c12] at H
      have c12b0 : decide (x8_1 < (t329.length : Int)) = false := decide_eq_false c12
      clear c12
      by_cases c18 : (t326.length : Int) = 0
      ·
       rw [if_pos c18] at H
       have c18b0 : ((t326.length : Int) == 0) = true := beq_iff_eq.mpr c18
       have c18b1 : ((t326.length : Int) != 0) = false := bne_eq_false_iff_eq.mpr c18
       clear c18
       by_cases c19 : (x7_1.length : Int) = 0
       ·
        rw [if_pos c19] at H
        have c19b0 : ((x7_1.length : Int) == 0) = true := beq_iff_eq.mpr c19
        have c19b1 : ((x7_1.length : Int) != 0) = false := bne_eq_false_iff_eq.mpr c19
        clear c19
        replace H := Option.bind_eq_some_iff.mp H
        obtain ⟨t338, A200, H⟩ := H
        replace H : (some t338) = some r := H
        have A20 := Sd.mk A200
        clear A200
        obtain rfl := Option.some.inj H
        obtain ⟨Ao21, co21, eo21⟩ := Kd.R_slice HO_7.out
        subst eo21
        go_wp2_with (first | (go_at_call 10; (with_reducible refine (l36known.calls k1  t338 _ A20.out).mono ?_); rintro e w22 ⟨rfl, hb⟩; have n0_ := Sd.mk (Kd.R_below (q40R HO_5.out) hb); have n1_ := Sd.mk (Kd.S_below (by (with_reducible repeat (first | apply Kd.S_alloc | apply Kd.S_drewN | apply Kd.S_drew)); exact HO_6.out) hb); have n2_ := Sd.mk (Kd.R_below (q40R HO_7.out) hb); have n3_ := Sd.mk (below_step bel_ hb); clear HO_5; clear HO_6; clear HO_7; clear HB; have HO_5 := n0_; have HO_6 := n1_; have HO_7 := n2_; have HB := n3_; clear n0_ n1_ n2_ n3_; (try clear hb); (try clear hb2); (try clear hk); (try clear hi)))
        repeat (go_quiet (first | (go_at_call 10; (with_reducible refine (l36known.calls k1  t338 _ A20.out).mono ?_); rintro e w22 ⟨rfl, hb⟩; have n0_ := Sd.mk (Kd.R_below (q40R HO_5.out) hb); have n1_ := Sd.mk (Kd.S_below (by (with_reducible repeat (first | apply Kd.S_alloc | apply Kd.S_drewN | apply Kd.S_drew)); exact HO_6.out) hb); have n2_ := Sd.mk (Kd.R_below (q40R HO_7.out) hb); have n3_ := Sd.mk (below_step bel_ hb); clear HO_5; clear HO_6; clear HO_7; clear HB; have HO_5 := n0_; have HO_6 := n1_; have HO_7 := n2_; have HB := n3_; clear n0_ n1_ n2_ n3_; (try clear hb); (try clear hb2); (try clear hk); (try clear hi))); try go_wp2_with (first | (go_at_call 10; (with_reducible refine (l36known.calls k1  t338 _ A20.out).mono ?_); rintro e w22 ⟨rfl, hb⟩; have n0_ := Sd.mk (Kd.R_below (q40R HO_5.out) hb); have n1_ := Sd.mk (Kd.S_below (by (with_reducible repeat (first | apply Kd.S_alloc | apply Kd.S_drewN | apply Kd.S_drew)); exact HO_6.out) hb); have n2_ := Sd.mk (Kd.R_below (q40R HO_7.out) hb); have n3_ := Sd.mk (below_step bel_ hb); clear HO_5; clear HO_6; clear HO_7; clear HB; have HO_5 := n0_; have HO_6 := n1_; have HO_7 := n2_; have HB := n3_; clear n0_ n1_ n2_ n3_; (try clear hb); (try clear hb2); (try clear hk); (try clear hi))))
        go_ret
        exact ⟨by first | rfl | (simp [errW_none, errW_some] <;> rfl) | (simp [*, errW_none, errW_some] <;> rfl), bel_⟩
       ·
        rw [if_neg c19] at H
        have c19b0 : ((x7_1.length : Int) == 0) = false := beq_eq_false_iff_ne.mpr c19
        have c19b1 : ((x7_1.length : Int) != 0) = true := bne_iff_ne.mpr c19
        have c19b2 : ¬ (x7_1 = []) := fun h_ => c19 (by rw [h_]; rfl)
        (have H3_ := Option.some.inj H; have H4_ := hT.out; rw [← H3_] at H4_; exact absurd H4_ (by decide))
      ·
       rw [if_neg c18] at H
       have c18b0 : ((t326.length : Int) == 0) = false := beq_eq_false_iff_ne.mpr c18
       have c18b1 : ((t326.length : Int) != 0) = true := bne_iff_ne.mpr c18
       have c18b2 : ¬ (t326 = []) := fun h_ => c18 (by rw [h_]; rfl)
       by_cases c23 : 0 < (t326.length : Int)
       ·
        rw [if_pos c23] at H
        have c23b0 : decide (0 < (t326.length : Int)) = true := decide_eq_true c23
        have c23b1 : decide (0 < t326.length) = true := decide_eq_true (by omega)
        clear c23
        replace H := Option.bind_eq_some_iff.mp H
        obtain ⟨t340, A240, H⟩ := H
        replace H : ((r24Same.f k1 x7_1 t340).bind fun t343 => (if t343 = true then ((l36known.f k1).bind fun t344 => (some t344)) else (some false))) = some r := H
        have A24 := Sd.mk A240
        clear A240
        replace H := Option.bind_eq_some_iff.mp H
        obtain ⟨t343, A250, H⟩ := H
        replace H : (if t343 = true then ((l36known.f k1).bind fun t344 => (some t344)) else (some false)) = some r := H
        have A25 := Sd.mk A250
        clear A250
        by_cases c26 : t343 = true
        ·
         subst c26
         have H1 : ((l36known.f k1).bind fun t344 => (some t344)) = some r := by rw [if_pos rfl] at H; exact H
         clear H
         have H := H1
         clear H1
         replace H := Option.bind_eq_some_iff.mp H
         obtain ⟨t344, A270, H⟩ := H
         replace H : (some t344) = some r := H
         have A27 := Sd.mk A270
         clear A270
         obtain rfl := Option.some.inj H
         have p339 : 0 ≤ (0 : Int) := (by omega)
         have q339 : 0 < (t326.length : Int) := of_decide_eq_true (by first | (with_reducible assumption) | assumption)
         obtain ⟨ad339, e339, hx339_0⟩ := Kd.at_int (Kd.R_reads' HO_5.out).2.2 0 p339 q339
         cases e339
         have qi339 : (0 < t326.length) = True := eq_true (by omega)
         (try rw [show ((0 : Int)).toNat = 0 from rfl] at hx339_0)
         (try rw [Addr.add_zero'] at hx339_0)
         replace p339 := eq_true p339
         replace q339 := eq_true q339
         go_wp2_with (first | (go_at_call 20; (with_reducible refine (trace_Got.calls _ _ l0 a1 (rd t326 0) (l0.length : Int) t340 _ ?side1 ?side2 A24.out).mono ?_); (case side1 => repeat (first | exact (Kd.C_below HR0.out HB.out) | (with_reducible refine Kd.C_alloc ?_ _) | (with_reducible refine Kd.C_drewN ?_ _) | (with_reducible refine Kd.C_drew ?_))); (case side2 => exact HC0.out); rintro e w28 ⟨v341, rfl, ho0, hb⟩; have n0_ := Sd.mk (Kd.R_below (q40R HO_5.out) hb); have n1_ := Sd.mk (Kd.S_elder' (by (with_reducible repeat (first | apply Kd.S_alloc | apply Kd.S_drewN | apply Kd.S_drew)); exact HO_6.out) (Kd.R_base ho0) hb); have n2_ := Sd.mk (Kd.R_elder' (q40R HO_7.out) (Kd.R_base ho0) hb); have n3_ := Sd.mk (Kd.R_lower (Kd.R_new' ho0 (Kd.R_lt (q40R HO_7.out))) (below_size bel_)); have n4_ := Sd.mk (below_step bel_ hb); clear HO_5; clear HO_6; clear HO_7; clear HB; have HO_5 := n0_; have HO_6 := n1_; have HO_7 := n2_; have HO342 := n3_; have HB := n4_; clear n0_ n1_ n2_ n3_ n4_; (try clear hb); (try clear hb2); (try clear hk); (try clear hi); (try clear ho0); obtain ⟨Ao29, co29, eo29⟩ := Kd.R_slice HO_7.out; subst eo29; obtain ⟨Ao30, co30, eo30⟩ := Kd.R_slice HO342.out; subst eo30) | (go_at_call 19; (with_reducible refine (r24Same.calls k1 _ _ x7_1 _ _ t340 true _ ?side1 ?side2 ?side3 ?side4 A25.out).mono ?_); (case side1 => repeat (first | exact (Kd.R_reads' HO_7.out).2.2 | (with_reducible refine Kd.C_alloc ?_ _) | (with_reducible refine Kd.C_drewN ?_ _) | (with_reducible refine Kd.C_drew ?_))); (case side2 => exact (Kd.R_reads' HO_7.out).2.1); (case side3 => repeat (first | exact (Kd.R_reads' HO342.out).2.2 | (with_reducible refine Kd.C_alloc ?_ _) | (with_reducible refine Kd.C_drewN ?_ _) | (with_reducible refine Kd.C_drew ?_))); (case side4 => exact (Kd.R_reads' HO342.out).2.1); rintro e w' ⟨rfl, ⟨nd, rfl⟩⟩; (try first | exact ⟨rfl, _, World.drewN_drewN _ _ _⟩ | exact ⟨rfl, _, Eq.trans (World.drewN_drewN _ _ _) (congrArg (World.drewN _) (Nat.add_assoc _ _ _))⟩)) | (go_at_call 10; (with_reducible refine (l36known.calls k1  t344 _ A27.out).mono ?_); rintro e w31 ⟨rfl, hb⟩; have n0_ := Sd.mk (Kd.R_below (q40R HO_5.out) hb); have n1_ := Sd.mk (Kd.S_below (by (with_reducible repeat (first | apply Kd.S_alloc | apply Kd.S_drewN | apply Kd.S_drew)); exact HO_6.out) hb); have n2_ := Sd.mk (Kd.R_below (q40R HO_7.out) hb); have n3_ := Sd.mk (Kd.R_below (q40R HO342.out) hb); have n4_ := Sd.mk (below_step bel_ hb); clear HO_5; clear HO_6; clear HO_7; clear HO342; clear HB; have HO_5 := n0_; have HO_6 := n1_; have HO_7 := n2_; have HO342 := n3_; have HB := n4_; clear n0_ n1_ n2_ n3_ n4_; (try clear hb); (try clear hb2); (try clear hk); (try clear hi)))
         repeat (go_quiet (first | (go_at_call 20; (with_reducible refine (trace_Got.calls _ _ l0 a1 (rd t326 0) (l0.length : Int) t340 _ ?side1 ?side2 A24.out).mono ?_); (case side1 => repeat (first | exact (Kd.C_below HR0.out HB.out) | (with_reducible refine Kd.C_alloc ?_ _) | (with_reducible refine Kd.C_drewN ?_ _) | (with_reducible refine Kd.C_drew ?_))); (case side2 => exact HC0.out); rintro e w28 ⟨v341, rfl, ho0, hb⟩; have n0_ := Sd.mk (Kd.R_below (q40R HO_5.out) hb); have n1_ := Sd.mk (Kd.S_elder' (by (with_reducible repeat (first | apply Kd.S_alloc | apply Kd.S_drewN | apply Kd.S_drew)); exact HO_6.out) (Kd.R_base ho0) hb); have n2_ := Sd.mk (Kd.R_elder' (q40R HO_7.out) (Kd.R_base ho0) hb); have n3_ := Sd.mk (Kd.R_lower (Kd.R_new' ho0 (Kd.R_lt (q40R HO_7.out))) (below_size bel_)); have n4_ := Sd.mk (below_step bel_ hb); clear HO_5; clear HO_6; clear HO_7; clear HB; have HO_5 := n0_; have HO_6 := n1_; have HO_7 := n2_; have HO342 := n3_; have HB := n4_; clear n0_ n1_ n2_ n3_ n4_; (try clear hb); (try clear hb2); (try clear hk); (try clear hi); (try clear ho0); obtain ⟨Ao29, co29, eo29⟩ := Kd.R_slice HO_7.out; subst eo29; obtain ⟨Ao30, co30, eo30⟩ := Kd.R_slice HO342.out; subst eo30) | (go_at_call 19; (with_reducible refine (r24Same.calls k1 _ _ x7_1 _ _ t340 true _ ?side1 ?side2 ?side3 ?side4 A25.out).mono ?_); (case side1 => repeat (first | exact (Kd.R_reads' HO_7.out).2.2 | (with_reducible refine Kd.C_alloc ?_ _) | (with_reducible refine Kd.C_drewN ?_ _) | (with_reducible refine Kd.C_drew ?_))); (case side2 => exact (Kd.R_reads' HO_7.out).2.1); (case side3 => repeat (first | exact (Kd.R_reads' HO342.out).2.2 | (with_reducible refine Kd.C_alloc ?_ _) | (with_reducible refine Kd.C_drewN ?_ _) | (with_reducible refine Kd.C_drew ?_))); (case side4 => exact (Kd.R_reads' HO342.out).2.1); rintro e w' ⟨rfl, ⟨nd, rfl⟩⟩; (try first | exact ⟨rfl, _, World.drewN_drewN _ _ _⟩ | exact ⟨rfl, _, Eq.trans (World.drewN_drewN _ _ _) (congrArg (World.drewN _) (Nat.add_assoc _ _ _))⟩)) | (go_at_call 10; (with_reducible refine (l36known.calls k1  t344 _ A27.out).mono ?_); rintro e w31 ⟨rfl, hb⟩; have n0_ := Sd.mk (Kd.R_below (q40R HO_5.out) hb); have n1_ := Sd.mk (Kd.S_below (by (with_reducible repeat (first | apply Kd.S_alloc | apply Kd.S_drewN | apply Kd.S_drew)); exact HO_6.out) hb); have n2_ := Sd.mk (Kd.R_below (q40R HO_7.out) hb); have n3_ := Sd.mk (Kd.R_below (q40R HO342.out) hb); have n4_ := Sd.mk (below_step bel_ hb); clear HO_5; clear HO_6; clear HO_7; clear HO342; clear HB; have HO_5 := n0_; have HO_6 := n1_; have HO_7 := n2_; have HO342 := n3_; have HB := n4_; clear n0_ n1_ n2_ n3_ n4_; (try clear hb); (try clear hb2); (try clear hk); (try clear hi))); try go_wp2_with (first | (go_at_call 20; (with_reducible refine (trace_Got.calls _ _ l0 a1 (rd t326 0) (l0.length : Int) t340 _ ?side1 ?side2 A24.out).mono ?_); (case side1 => repeat (first | exact (Kd.C_below HR0.out HB.out) | (with_reducible refine Kd.C_alloc ?_ _) | (with_reducible refine Kd.C_drewN ?_ _) | (with_reducible refine Kd.C_drew ?_))); (case side2 => exact HC0.out); rintro e w28 ⟨v341, rfl, ho0, hb⟩; have n0_ := Sd.mk (Kd.R_below (q40R HO_5.out) hb); have n1_ := Sd.mk (Kd.S_elder' (by (with_reducible repeat (first | apply Kd.S_alloc | apply Kd.S_drewN | apply Kd.S_drew)); exact HO_6.out) (Kd.R_base ho0) hb); have n2_ := Sd.mk (Kd.R_elder' (q40R HO_7.out) (Kd.R_base ho0) hb); have n3_ := Sd.mk (Kd.R_lower (Kd.R_new' ho0 (Kd.R_lt (q40R HO_7.out))) (below_size bel_)); have n4_ := Sd.mk (below_step bel_ hb); clear HO_5; clear HO_6; clear HO_7; clear HB; have HO_5 := n0_; have HO_6 := n1_; have HO_7 := n2_; have HO342 := n3_; have HB := n4_; clear n0_ n1_ n2_ n3_ n4_; (try clear hb); (try clear hb2); (try clear hk); (try clear hi); (try clear ho0); obtain ⟨Ao29, co29, eo29⟩ := Kd.R_slice HO_7.out; subst eo29; obtain ⟨Ao30, co30, eo30⟩ := Kd.R_slice HO342.out; subst eo30) | (go_at_call 19; (with_reducible refine (r24Same.calls k1 _ _ x7_1 _ _ t340 true _ ?side1 ?side2 ?side3 ?side4 A25.out).mono ?_); (case side1 => repeat (first | exact (Kd.R_reads' HO_7.out).2.2 | (with_reducible refine Kd.C_alloc ?_ _) | (with_reducible refine Kd.C_drewN ?_ _) | (with_reducible refine Kd.C_drew ?_))); (case side2 => exact (Kd.R_reads' HO_7.out).2.1); (case side3 => repeat (first | exact (Kd.R_reads' HO342.out).2.2 | (with_reducible refine Kd.C_alloc ?_ _) | (with_reducible refine Kd.C_drewN ?_ _) | (with_reducible refine Kd.C_drew ?_))); (case side4 => exact (Kd.R_reads' HO342.out).2.1); rintro e w' ⟨rfl, ⟨nd, rfl⟩⟩; (try first | exact ⟨rfl, _, World.drewN_drewN _ _ _⟩ | exact ⟨rfl, _, Eq.trans (World.drewN_drewN _ _ _) (congrArg (World.drewN _) (Nat.add_assoc _ _ _))⟩)) | (go_at_call 10; (with_reducible refine (l36known.calls k1  t344 _ A27.out).mono ?_); rintro e w31 ⟨rfl, hb⟩; have n0_ := Sd.mk (Kd.R_below (q40R HO_5.out) hb); have n1_ := Sd.mk (Kd.S_below (by (with_reducible repeat (first | apply Kd.S_alloc | apply Kd.S_drewN | apply Kd.S_drew)); exact HO_6.out) hb); have n2_ := Sd.mk (Kd.R_below (q40R HO_7.out) hb); have n3_ := Sd.mk (Kd.R_below (q40R HO342.out) hb); have n4_ := Sd.mk (below_step bel_ hb); clear HO_5; clear HO_6; clear HO_7; clear HO342; clear HB; have HO_5 := n0_; have HO_6 := n1_; have HO_7 := n2_; have HO342 := n3_; have HB := n4_; clear n0_ n1_ n2_ n3_ n4_; (try clear hb); (try clear hb2); (try clear hk); (try clear hi))))
         go_ret
         exact ⟨by first | rfl | (simp [errW_none, errW_some] <;> rfl) | (simp [*, errW_none, errW_some] <;> rfl), bel_⟩
        ·
         replace c26 := Bool.eq_false_iff.mpr c26
         subst c26
         have H1 : (some false) = some r := by rw [if_neg (show ¬ (false = true) by decide)] at H; exact H
         clear H
         have H := H1
         clear H1
         (have H3_ := Option.some.inj H; have H4_ := hT.out; rw [← H3_] at H4_; exact absurd H4_ (by decide))
       ·
        rw [if_neg c23] at H
        exact absurd H (by simp)
  ·
   rw [if_neg c7] at H
   have c7b0 : ((t326.length : Int) == (t329.length : Int)) = false := beq_eq_false_iff_ne.mpr c7
   have c7b1 : ((t326.length : Int) != (t329.length : Int)) = true := bne_iff_ne.mpr c7
   have c7b2 : (t326.length == t329.length) = false := by first | simpa using c7 | (simp at c7 ⊢; omega)
   (have H3_ := Option.some.inj H; have H4_ := hT.out; rw [← H3_] at H4_; exact absurd H4_ (by decide))
 ·
  replace c4 := Bool.eq_false_iff.mpr c4
  subst c4
  have H1 : ((l36known.f k).bind fun t325 => (some t325)) = some r := by rw [if_neg (show ¬ (false = true) by decide)] at H; exact H
  clear H
  have H := H1
  clear H1
  replace H := Option.bind_eq_some_iff.mp H
  obtain ⟨t325, A320, H⟩ := H
  replace H : (some t325) = some r := H
  have A32 := Sd.mk A320
  clear A320
  obtain rfl := Option.some.inj H
  go_enter Try.func5, Try.ntmps5
  go_wp2_with (first | (go_at_call 9; (with_reducible refine (r36Few.calls k _ _ l0 200 false _ ?side1 ?side2 A3.out).mono ?_); (case side1 => repeat (first | exact HR0.out | (with_reducible refine Kd.C_alloc ?_ _) | (with_reducible refine Kd.C_drewN ?_ _) | (with_reducible refine Kd.C_drew ?_))); (case side2 => exact HC0.out); rintro e w' ⟨rfl, ⟨nd, rfl⟩⟩; (try first | exact ⟨rfl, _, World.drewN_drewN _ _ _⟩ | exact ⟨rfl, _, Eq.trans (World.drewN_drewN _ _ _) (congrArg (World.drewN _) (Nat.add_assoc _ _ _))⟩)) | (go_at_call 10; (with_reducible refine (l36known.calls k  t325 _ A32.out).mono ?_); rintro e w33 ⟨rfl, hb⟩; have n0_ := Sd.mk (below_step bel_ hb); clear HB; have HB := n0_; clear n0_; (try clear hb); (try clear hb2); (try clear hk); (try clear hi)))
  repeat (go_quiet (first | (go_at_call 9; (with_reducible refine (r36Few.calls k _ _ l0 200 false _ ?side1 ?side2 A3.out).mono ?_); (case side1 => repeat (first | exact HR0.out | (with_reducible refine Kd.C_alloc ?_ _) | (with_reducible refine Kd.C_drewN ?_ _) | (with_reducible refine Kd.C_drew ?_))); (case side2 => exact HC0.out); rintro e w' ⟨rfl, ⟨nd, rfl⟩⟩; (try first | exact ⟨rfl, _, World.drewN_drewN _ _ _⟩ | exact ⟨rfl, _, Eq.trans (World.drewN_drewN _ _ _) (congrArg (World.drewN _) (Nat.add_assoc _ _ _))⟩)) | (go_at_call 10; (with_reducible refine (l36known.calls k  t325 _ A32.out).mono ?_); rintro e w33 ⟨rfl, hb⟩; have n0_ := Sd.mk (below_step bel_ hb); clear HB; have HB := n0_; clear n0_; (try clear hb); (try clear hb2); (try clear hk); (try clear hi))); try go_wp2_with (first | (go_at_call 9; (with_reducible refine (r36Few.calls k _ _ l0 200 false _ ?side1 ?side2 A3.out).mono ?_); (case side1 => repeat (first | exact HR0.out | (with_reducible refine Kd.C_alloc ?_ _) | (with_reducible refine Kd.C_drewN ?_ _) | (with_reducible refine Kd.C_drew ?_))); (case side2 => exact HC0.out); rintro e w' ⟨rfl, ⟨nd, rfl⟩⟩; (try first | exact ⟨rfl, _, World.drewN_drewN _ _ _⟩ | exact ⟨rfl, _, Eq.trans (World.drewN_drewN _ _ _) (congrArg (World.drewN _) (Nat.add_assoc _ _ _))⟩)) | (go_at_call 10; (with_reducible refine (l36known.calls k  t325 _ A32.out).mono ?_); rintro e w33 ⟨rfl, hb⟩; have n0_ := Sd.mk (below_step bel_ hb); clear HB; have HB := n0_; clear n0_; (try clear hb); (try clear hb2); (try clear hk); (try clear hi))))
  go_ret
  exact ⟨by first | rfl | (simp [errW_none, errW_some] <;> rfl) | (simp [*, errW_none, errW_some] <;> rfl), bel_⟩
end Go.Proofs.Ytmdnmofcgmmfbaa.T
