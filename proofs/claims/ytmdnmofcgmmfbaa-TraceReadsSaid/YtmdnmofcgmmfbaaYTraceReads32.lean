import Derived.Test.YtmdnmofcgmmfbaaYTraceReads30
import Derived.Test.YtmdnmofcgmmfbaaYTraceReads31
set_option maxHeartbeats 8000000
set_option maxRecDepth 100000
namespace Go.Proofs.Ytmdnmofcgmmfbaa.T
open Go.RowKit Go.Proofs.YtmdnmofcgmmfbaaW.PrintWords Go.Proofs.YtmdnmofcgmmfbaaW.PrintLast Go.Proofs.YtmdnmofcgmmfbaaW.PrintMore
attribute [local go_sem] max2_int min2_int max_two min_two max_three min_three max_four min_four   -- for this text's walks alone
set_option linter.unusedVariables false
set_option linter.unusedSimpArgs false
theorem q32V {A B : Prop} (h : A) (q : A → B := by intro h_; (with_reducible repeat (first | apply Kd.V_alloc | apply Kd.V_drewN | apply Kd.V_drew)); exact h_) : B := q h
theorem q32R {A B : Prop} (h : A) (q : A → B := by intro h_; (with_reducible repeat (first | apply Kd.R_alloc | apply Kd.R_drewN | apply Kd.R_drew)); exact h_) : B := q h
def l36TraceReads.f (k : Nat) (l0 : List (List (S28))) (a1 : Int) (a2 : Int) (a3 : Int) : Option (Bool) := (r36Few.f k l0 200).bind fun t229 => (if t229 = true then ((trace_At.f l0 a2 a1).bind fun bt231 => ((r36At.f l0 a2 a1).bind fun bt240 => ((r27Same.f k bt231.1 bt231.2.1 bt231.2.2.1 bt231.2.2.2.1 bt231.2.2.2.2.1 bt231.2.2.2.2.2.1 bt231.2.2.2.2.2.2 bt240.1 bt240.2.1 bt240.2.2.1 bt240.2.2.2.1 bt240.2.2.2.2.1 bt240.2.2.2.2.2.1 bt240.2.2.2.2.2.2).bind fun t249 => (if t249 = true then ((trace_Pulses.f l0 a1).bind fun t250 => ((r36Pulses.f k l0 a1).bind fun t253 => ((r06Ints.f k t250 t253).bind fun t256 => (if t256 = true then ((trace_Sent.f l0 a1).bind fun t257 => ((r36Sent.f k l0 a1).bind fun t260 => ((r06Ints.f k t257 t260).bind fun t263 => (if t263 = true then ((trace_Got.f l0 a1 a2 a3).bind fun t264 => ((r36Got.f k l0 a1 a2 a3).bind fun t267 => ((r24Same.f k t264 t267).bind fun t270 => (if t270 = true then ((l36known.f k).bind fun t271 => (some t271)) else (some false))))) else (some false))))) else (some false))))) else (some false))))) else ((l36known.f k).bind fun t230 => (some t230)))
theorem l36TraceReads.calls (k : Nat) (A0 : Option Addr) (c0 : Nat) (l0 : List (List (S28))) (a1 : Int) (a2 : Int) (a3 : Int) (r : Bool) (w : World) (hr0 : Kd.C (Kd.slice 28 k28) w A0 l0.length l0) (hc0 : l0.length ≤ c0) (h : l36TraceReads.f k l0 a1 a2 a3 = some r) (hT : Sd (r = true) := by first | exact ⟨rfl⟩ | assumption) :
  Calls Try.prog 3 #[.slice A0 l0.length c0, .int .i64 a1, .int .i64 a2, .int .i64 a3] w fun e w' => e = .returned (.bool r) ∧ Below w.heap.size w w' := by
 have HR0 := Sd.mk hr0
 have HC0 := Sd.mk hc0
 clear hr0 hc0
 have HB := Sd.mk (Below.refl w.heap.size w)
 have H : ((r36Few.f k l0 200).bind fun t229 => (if t229 = true then ((trace_At.f l0 a2 a1).bind fun bt231 => ((r36At.f l0 a2 a1).bind fun bt240 => ((r27Same.f k bt231.1 bt231.2.1 bt231.2.2.1 bt231.2.2.2.1 bt231.2.2.2.2.1 bt231.2.2.2.2.2.1 bt231.2.2.2.2.2.2 bt240.1 bt240.2.1 bt240.2.2.1 bt240.2.2.2.1 bt240.2.2.2.2.1 bt240.2.2.2.2.2.1 bt240.2.2.2.2.2.2).bind fun t249 => (if t249 = true then ((trace_Pulses.f l0 a1).bind fun t250 => ((r36Pulses.f k l0 a1).bind fun t253 => ((r06Ints.f k t250 t253).bind fun t256 => (if t256 = true then ((trace_Sent.f l0 a1).bind fun t257 => ((r36Sent.f k l0 a1).bind fun t260 => ((r06Ints.f k t257 t260).bind fun t263 => (if t263 = true then ((trace_Got.f l0 a1 a2 a3).bind fun t264 => ((r36Got.f k l0 a1 a2 a3).bind fun t267 => ((r24Same.f k t264 t267).bind fun t270 => (if t270 = true then ((l36known.f k).bind fun t271 => (some t271)) else (some false))))) else (some false))))) else (some false))))) else (some false))))) else ((l36known.f k).bind fun t230 => (some t230)))) = some r := h
 clear h
 replace H := Option.bind_eq_some_iff.mp H
 obtain ⟨t229, A50, H⟩ := H
 replace H : (if t229 = true then ((trace_At.f l0 a2 a1).bind fun bt231 => ((r36At.f l0 a2 a1).bind fun bt240 => ((r27Same.f k bt231.1 bt231.2.1 bt231.2.2.1 bt231.2.2.2.1 bt231.2.2.2.2.1 bt231.2.2.2.2.2.1 bt231.2.2.2.2.2.2 bt240.1 bt240.2.1 bt240.2.2.1 bt240.2.2.2.1 bt240.2.2.2.2.1 bt240.2.2.2.2.2.1 bt240.2.2.2.2.2.2).bind fun t249 => (if t249 = true then ((trace_Pulses.f l0 a1).bind fun t250 => ((r36Pulses.f k l0 a1).bind fun t253 => ((r06Ints.f k t250 t253).bind fun t256 => (if t256 = true then ((trace_Sent.f l0 a1).bind fun t257 => ((r36Sent.f k l0 a1).bind fun t260 => ((r06Ints.f k t257 t260).bind fun t263 => (if t263 = true then ((trace_Got.f l0 a1 a2 a3).bind fun t264 => ((r36Got.f k l0 a1 a2 a3).bind fun t267 => ((r24Same.f k t264 t267).bind fun t270 => (if t270 = true then ((l36known.f k).bind fun t271 => (some t271)) else (some false))))) else (some false))))) else (some false))))) else (some false))))) else ((l36known.f k).bind fun t230 => (some t230))) = some r := H
 have A5 := Sd.mk A50
 clear A50
 by_cases c6 : t229 = true
 ·
  subst c6
  have H1 : ((trace_At.f l0 a2 a1).bind fun bt231 => ((r36At.f l0 a2 a1).bind fun bt240 => ((r27Same.f k bt231.1 bt231.2.1 bt231.2.2.1 bt231.2.2.2.1 bt231.2.2.2.2.1 bt231.2.2.2.2.2.1 bt231.2.2.2.2.2.2 bt240.1 bt240.2.1 bt240.2.2.1 bt240.2.2.2.1 bt240.2.2.2.2.1 bt240.2.2.2.2.2.1 bt240.2.2.2.2.2.2).bind fun t249 => (if t249 = true then ((trace_Pulses.f l0 a1).bind fun t250 => ((r36Pulses.f k l0 a1).bind fun t253 => ((r06Ints.f k t250 t253).bind fun t256 => (if t256 = true then ((trace_Sent.f l0 a1).bind fun t257 => ((r36Sent.f k l0 a1).bind fun t260 => ((r06Ints.f k t257 t260).bind fun t263 => (if t263 = true then ((trace_Got.f l0 a1 a2 a3).bind fun t264 => ((r36Got.f k l0 a1 a2 a3).bind fun t267 => ((r24Same.f k t264 t267).bind fun t270 => (if t270 = true then ((l36known.f k).bind fun t271 => (some t271)) else (some false))))) else (some false))))) else (some false))))) else (some false))))) = some r := by rw [if_pos rfl] at H; exact H
  clear H
  have H := H1
  clear H1
  replace H := Option.bind_eq_some_iff.mp H
  obtain ⟨⟨t231, t232, t233, t234, t235, t236, t237⟩, A70, H⟩ := H
  replace H : ((r36At.f l0 a2 a1).bind fun bt240 => ((r27Same.f k t231 t232 t233 t234 t235 t236 t237 bt240.1 bt240.2.1 bt240.2.2.1 bt240.2.2.2.1 bt240.2.2.2.2.1 bt240.2.2.2.2.2.1 bt240.2.2.2.2.2.2).bind fun t249 => (if t249 = true then ((trace_Pulses.f l0 a1).bind fun t250 => ((r36Pulses.f k l0 a1).bind fun t253 => ((r06Ints.f k t250 t253).bind fun t256 => (if t256 = true then ((trace_Sent.f l0 a1).bind fun t257 => ((r36Sent.f k l0 a1).bind fun t260 => ((r06Ints.f k t257 t260).bind fun t263 => (if t263 = true then ((trace_Got.f l0 a1 a2 a3).bind fun t264 => ((r36Got.f k l0 a1 a2 a3).bind fun t267 => ((r24Same.f k t264 t267).bind fun t270 => (if t270 = true then ((l36known.f k).bind fun t271 => (some t271)) else (some false))))) else (some false))))) else (some false))))) else (some false)))) = some r := H
  have A7 := Sd.mk A70
  clear A70
  replace H := Option.bind_eq_some_iff.mp H
  obtain ⟨⟨t240, t241, t242, t243, t244, t245, t246⟩, A80, H⟩ := H
  replace H : ((r27Same.f k t231 t232 t233 t234 t235 t236 t237 t240 t241 t242 t243 t244 t245 t246).bind fun t249 => (if t249 = true then ((trace_Pulses.f l0 a1).bind fun t250 => ((r36Pulses.f k l0 a1).bind fun t253 => ((r06Ints.f k t250 t253).bind fun t256 => (if t256 = true then ((trace_Sent.f l0 a1).bind fun t257 => ((r36Sent.f k l0 a1).bind fun t260 => ((r06Ints.f k t257 t260).bind fun t263 => (if t263 = true then ((trace_Got.f l0 a1 a2 a3).bind fun t264 => ((r36Got.f k l0 a1 a2 a3).bind fun t267 => ((r24Same.f k t264 t267).bind fun t270 => (if t270 = true then ((l36known.f k).bind fun t271 => (some t271)) else (some false))))) else (some false))))) else (some false))))) else (some false))) = some r := H
  have A8 := Sd.mk A80
  clear A80
  replace H := Option.bind_eq_some_iff.mp H
  obtain ⟨t249, A90, H⟩ := H
  replace H : (if t249 = true then ((trace_Pulses.f l0 a1).bind fun t250 => ((r36Pulses.f k l0 a1).bind fun t253 => ((r06Ints.f k t250 t253).bind fun t256 => (if t256 = true then ((trace_Sent.f l0 a1).bind fun t257 => ((r36Sent.f k l0 a1).bind fun t260 => ((r06Ints.f k t257 t260).bind fun t263 => (if t263 = true then ((trace_Got.f l0 a1 a2 a3).bind fun t264 => ((r36Got.f k l0 a1 a2 a3).bind fun t267 => ((r24Same.f k t264 t267).bind fun t270 => (if t270 = true then ((l36known.f k).bind fun t271 => (some t271)) else (some false))))) else (some false))))) else (some false))))) else (some false)) = some r := H
  have A9 := Sd.mk A90
  clear A90
  by_cases c10 : t249 = true
  ·
   subst c10
   have H1 : ((trace_Pulses.f l0 a1).bind fun t250 => ((r36Pulses.f k l0 a1).bind fun t253 => ((r06Ints.f k t250 t253).bind fun t256 => (if t256 = true then ((trace_Sent.f l0 a1).bind fun t257 => ((r36Sent.f k l0 a1).bind fun t260 => ((r06Ints.f k t257 t260).bind fun t263 => (if t263 = true then ((trace_Got.f l0 a1 a2 a3).bind fun t264 => ((r36Got.f k l0 a1 a2 a3).bind fun t267 => ((r24Same.f k t264 t267).bind fun t270 => (if t270 = true then ((l36known.f k).bind fun t271 => (some t271)) else (some false))))) else (some false))))) else (some false))))) = some r := by rw [if_pos rfl] at H; exact H
   clear H
   have H := H1
   clear H1
   replace H := Option.bind_eq_some_iff.mp H
   obtain ⟨t250, A110, H⟩ := H
   replace H : ((r36Pulses.f k l0 a1).bind fun t253 => ((r06Ints.f k t250 t253).bind fun t256 => (if t256 = true then ((trace_Sent.f l0 a1).bind fun t257 => ((r36Sent.f k l0 a1).bind fun t260 => ((r06Ints.f k t257 t260).bind fun t263 => (if t263 = true then ((trace_Got.f l0 a1 a2 a3).bind fun t264 => ((r36Got.f k l0 a1 a2 a3).bind fun t267 => ((r24Same.f k t264 t267).bind fun t270 => (if t270 = true then ((l36known.f k).bind fun t271 => (some t271)) else (some false))))) else (some false))))) else (some false)))) = some r := H
   have A11 := Sd.mk A110
   clear A110
   replace H := Option.bind_eq_some_iff.mp H
   obtain ⟨t253, A120, H⟩ := H
   replace H : ((r06Ints.f k t250 t253).bind fun t256 => (if t256 = true then ((trace_Sent.f l0 a1).bind fun t257 => ((r36Sent.f k l0 a1).bind fun t260 => ((r06Ints.f k t257 t260).bind fun t263 => (if t263 = true then ((trace_Got.f l0 a1 a2 a3).bind fun t264 => ((r36Got.f k l0 a1 a2 a3).bind fun t267 => ((r24Same.f k t264 t267).bind fun t270 => (if t270 = true then ((l36known.f k).bind fun t271 => (some t271)) else (some false))))) else (some false))))) else (some false))) = some r := H
   have A12 := Sd.mk A120
   clear A120
   replace H := Option.bind_eq_some_iff.mp H
   obtain ⟨t256, A130, H⟩ := H
   replace H : (if t256 = true then ((trace_Sent.f l0 a1).bind fun t257 => ((r36Sent.f k l0 a1).bind fun t260 => ((r06Ints.f k t257 t260).bind fun t263 => (if t263 = true then ((trace_Got.f l0 a1 a2 a3).bind fun t264 => ((r36Got.f k l0 a1 a2 a3).bind fun t267 => ((r24Same.f k t264 t267).bind fun t270 => (if t270 = true then ((l36known.f k).bind fun t271 => (some t271)) else (some false))))) else (some false))))) else (some false)) = some r := H
   have A13 := Sd.mk A130
   clear A130
   by_cases c14 : t256 = true
   ·
    subst c14
    have H1 : ((trace_Sent.f l0 a1).bind fun t257 => ((r36Sent.f k l0 a1).bind fun t260 => ((r06Ints.f k t257 t260).bind fun t263 => (if t263 = true then ((trace_Got.f l0 a1 a2 a3).bind fun t264 => ((r36Got.f k l0 a1 a2 a3).bind fun t267 => ((r24Same.f k t264 t267).bind fun t270 => (if t270 = true then ((l36known.f k).bind fun t271 => (some t271)) else (some false))))) else (some false))))) = some r := by rw [if_pos rfl] at H; exact H
    clear H
    have H := H1
    clear H1
    replace H := Option.bind_eq_some_iff.mp H
    obtain ⟨t257, A150, H⟩ := H
    replace H : ((r36Sent.f k l0 a1).bind fun t260 => ((r06Ints.f k t257 t260).bind fun t263 => (if t263 = true then ((trace_Got.f l0 a1 a2 a3).bind fun t264 => ((r36Got.f k l0 a1 a2 a3).bind fun t267 => ((r24Same.f k t264 t267).bind fun t270 => (if t270 = true then ((l36known.f k).bind fun t271 => (some t271)) else (some false))))) else (some false)))) = some r := H
    have A15 := Sd.mk A150
    clear A150
    replace H := Option.bind_eq_some_iff.mp H
    obtain ⟨t260, A160, H⟩ := H
    replace H : ((r06Ints.f k t257 t260).bind fun t263 => (if t263 = true then ((trace_Got.f l0 a1 a2 a3).bind fun t264 => ((r36Got.f k l0 a1 a2 a3).bind fun t267 => ((r24Same.f k t264 t267).bind fun t270 => (if t270 = true then ((l36known.f k).bind fun t271 => (some t271)) else (some false))))) else (some false))) = some r := H
    have A16 := Sd.mk A160
    clear A160
    replace H := Option.bind_eq_some_iff.mp H
    obtain ⟨t263, A170, H⟩ := H
    replace H : (if t263 = true then ((trace_Got.f l0 a1 a2 a3).bind fun t264 => ((r36Got.f k l0 a1 a2 a3).bind fun t267 => ((r24Same.f k t264 t267).bind fun t270 => (if t270 = true then ((l36known.f k).bind fun t271 => (some t271)) else (some false))))) else (some false)) = some r := H
    have A17 := Sd.mk A170
    clear A170
    by_cases c18 : t263 = true
    ·
     subst c18
     have H1 : ((trace_Got.f l0 a1 a2 a3).bind fun t264 => ((r36Got.f k l0 a1 a2 a3).bind fun t267 => ((r24Same.f k t264 t267).bind fun t270 => (if t270 = true then ((l36known.f k).bind fun t271 => (some t271)) else (some false))))) = some r := by rw [if_pos rfl] at H; exact H
     clear H
     have H := H1
     clear H1
     replace H := Option.bind_eq_some_iff.mp H
     obtain ⟨t264, A190, H⟩ := H
     replace H : ((r36Got.f k l0 a1 a2 a3).bind fun t267 => ((r24Same.f k t264 t267).bind fun t270 => (if t270 = true then ((l36known.f k).bind fun t271 => (some t271)) else (some false)))) = some r := H
     have A19 := Sd.mk A190
     clear A190
     replace H := Option.bind_eq_some_iff.mp H
     obtain ⟨t267, A200, H⟩ := H
     replace H : ((r24Same.f k t264 t267).bind fun t270 => (if t270 = true then ((l36known.f k).bind fun t271 => (some t271)) else (some false))) = some r := H
     have A20 := Sd.mk A200
     clear A200
     replace H := Option.bind_eq_some_iff.mp H
     obtain ⟨t270, A210, H⟩ := H
     replace H : (if t270 = true then ((l36known.f k).bind fun t271 => (some t271)) else (some false)) = some r := H
     have A21 := Sd.mk A210
     clear A210
     by_cases c22 : t270 = true
     ·
      subst c22
      have H1 : ((l36known.f k).bind fun t271 => (some t271)) = some r := by rw [if_pos rfl] at H; exact H
      clear H
      have H := H1
      clear H1
      replace H := Option.bind_eq_some_iff.mp H
      obtain ⟨t271, A230, H⟩ := H
      replace H : (some t271) = some r := H
      have A23 := Sd.mk A230
      clear A230
      obtain rfl := Option.some.inj H
      go_enter Try.func3, Try.ntmps3
      go_wp2_with (first | ((with_reducible refine gate_callee (f := 9) rfl ?_); refine goesL_ (some 10) rfl rfl Try.func9 (by kernel_rfl) rfl #[.slice A0 l0.length c0, .int .i64 200] rfl (by (try simp only [List.map_toArray, List.map_cons, List.map_nil]); first | done | rfl | (simp only [List.length_drop, List.length_take]; rfl)) ?_; (with_reducible refine (r36Few.calls k _ _ l0 200 true _ ?side1 ?side2 A5.out).mono ?_); (case side1 => repeat (first | exact HR0.out | (with_reducible refine Kd.C_alloc ?_ _) | (with_reducible refine Kd.C_drewN ?_ _) | (with_reducible refine Kd.C_drew ?_))); (case side2 => exact HC0.out); rintro e w' ⟨rfl, ⟨nd, rfl⟩⟩; refine ⟨_, rfl, ?_⟩) | ((with_reducible refine gate_callee (f := 12) rfl ?_); refine goesL_ (some 16) rfl rfl Try.func12 (by kernel_rfl) rfl #[.slice A0 l0.length c0, .int .i64 a2, .int .i64 a1] rfl (by (try simp only [List.map_toArray, List.map_cons, List.map_nil]); first | done | rfl | (simp only [List.length_drop, List.length_take]; rfl)) ?_; (with_reducible refine (trace_At.calls (fun k_ => k_ < w.heap.size) _ _ l0 a2 a1 t231 t232 t233 t234 t235 t236 t237 _ ?side1 A7.out).mono ?_); (case side1 => exact Kd.V_mk HC0.out (Kd.F_below (Kd.C_F (Kd.heap_slice 28 k28_heap) HR0.out) bel_)); rintro e w24 ⟨v238, rfl, ho0, hb⟩; refine ⟨_, rfl, ?_⟩; have n0_ := Sd.mk (Kd.V_lower (Kd.V_mono (ok' := fun k_ => True) ho0 (fun k_ hk_ => trivial)) (below_size bel_)); have n1_ := Sd.mk (below_step bel_ hb); clear HB; have HO239 := n0_; have HB := n1_; clear n0_ n1_; (try clear hb); (try clear hb2); (try clear hk); (try clear hi); (try clear ho0)) | ((with_reducible refine gate_callee (f := 13) rfl ?_); refine goesL_ (some 20) rfl rfl Try.func13 (by kernel_rfl) rfl #[.slice A0 l0.length c0, .int .i64 a2, .int .i64 a1] rfl (by (try simp only [List.map_toArray, List.map_cons, List.map_nil]); first | done | rfl | (simp only [List.length_drop, List.length_take]; rfl)) ?_; (with_reducible refine (r36At.calls (fun k_ => k_ < w.heap.size) _ _ l0 a2 a1 t240 t241 t242 t243 t244 t245 t246 _ ?side1 A8.out).mono ?_); (case side1 => exact Kd.V_mk HC0.out (Kd.F_below (Kd.C_F (Kd.heap_slice 28 k28_heap) HR0.out) bel_)); rintro e w25 ⟨v247, rfl, ho0, hb⟩; refine ⟨_, rfl, ?_⟩; have n0_ := Sd.mk (Kd.V_below (q32V HO239.out) hb); have n1_ := Sd.mk (Kd.V_lower (Kd.V_mono (ok' := fun k_ => True) ho0 (fun k_ hk_ => trivial)) (below_size bel_)); have n2_ := Sd.mk (below_step bel_ hb); clear HO239; clear HB; have HO239 := n0_; have HO248 := n1_; have HB := n2_; clear n0_ n1_ n2_; (try clear hb); (try clear hb2); (try clear hk); (try clear hi); (try clear ho0); obtain ⟨Ao26, co26, eo26⟩ := Kd.V_slice HO239.out; subst eo26; obtain ⟨Ao27, co27, eo27⟩ := Kd.V_slice HO248.out; subst eo27) | ((with_reducible refine gate_callee (f := 11) rfl ?_); refine goesL_ (some 21) rfl rfl Try.func11 (by kernel_rfl) rfl #[.agg #[.bool t231, .bool t232, .int .i64 t233, .int .i64 t234, .string t235, .int .i64 t236, .slice Ao26 t237.length co26], .agg #[.bool t240, .bool t241, .int .i64 t242, .int .i64 t243, .string t244, .int .i64 t245, .slice Ao27 t246.length co27]] rfl (by (try simp only [List.map_toArray, List.map_cons, List.map_nil]); first | done | rfl | (simp only [List.length_drop, List.length_take]; rfl)) ?_; (with_reducible refine (r27Same.calls k t231 t232 t233 t234 t235 t236 _ _ t237 t240 t241 t242 t243 t244 t245 _ _ t246 true _ ?side1 ?side2 ?side3 ?side4 A9.out).mono ?_); (case side1 => repeat (first | exact (Kd.V_reads' HO239.out).2.2 | (with_reducible refine Kd.C_alloc ?_ _) | (with_reducible refine Kd.C_drewN ?_ _) | (with_reducible refine Kd.C_drew ?_))); (case side2 => exact (Kd.V_reads' HO239.out).2.1); (case side3 => repeat (first | exact (Kd.V_reads' HO248.out).2.2 | (with_reducible refine Kd.C_alloc ?_ _) | (with_reducible refine Kd.C_drewN ?_ _) | (with_reducible refine Kd.C_drew ?_))); (case side4 => exact (Kd.V_reads' HO248.out).2.1); rintro e w28 ⟨rfl, hb⟩; refine ⟨_, rfl, ?_⟩; have n0_ := Sd.mk (Kd.V_below (q32V HO239.out) hb); have n1_ := Sd.mk (Kd.V_below (q32V HO248.out) hb); have n2_ := Sd.mk (below_step bel_ hb); clear HO239; clear HO248; clear HB; have HO239 := n0_; have HO248 := n1_; have HB := n2_; clear n0_ n1_ n2_; (try clear hb); (try clear hb2); (try clear hk); (try clear hi)) | (go_at_call 15; (with_reducible refine (trace_Pulses.calls _ _ l0 a1 t250 _ ?side1 ?side2 A11.out).mono ?_); (case side1 => repeat (first | exact (Kd.C_below HR0.out HB.out) | (with_reducible refine Kd.C_alloc ?_ _) | (with_reducible refine Kd.C_drewN ?_ _) | (with_reducible refine Kd.C_drew ?_))); (case side2 => exact HC0.out); rintro e w29 ⟨v251, rfl, ho0, hb⟩; have n0_ := Sd.mk (Kd.V_elder' (q32V HO239.out) (Kd.R_base ho0) hb); have n1_ := Sd.mk (Kd.V_elder' (q32V HO248.out) (Kd.R_base ho0) hb); have n2_ := Sd.mk (Kd.R_lower ho0 (below_size bel_)); have n3_ := Sd.mk (below_step bel_ hb); clear HO239; clear HO248; clear HB; have HO239 := n0_; have HO248 := n1_; have HO252 := n2_; have HB := n3_; clear n0_ n1_ n2_ n3_; (try clear hb); (try clear hb2); (try clear hk); (try clear hi); (try clear ho0)) | (go_at_call 16; (with_reducible refine (r36Pulses.calls k _ _ l0 a1 t253 _ ?side1 ?side2 A12.out).mono ?_); (case side1 => repeat (first | exact (Kd.C_below HR0.out HB.out) | (with_reducible refine Kd.C_alloc ?_ _) | (with_reducible refine Kd.C_drewN ?_ _) | (with_reducible refine Kd.C_drew ?_))); (case side2 => exact HC0.out); rintro e w30 ⟨v254, rfl, ho0, hb⟩; have n0_ := Sd.mk (Kd.V_elder' (q32V HO239.out) (Kd.R_base ho0) hb); have n1_ := Sd.mk (Kd.V_elder' (q32V HO248.out) (Kd.R_base ho0) hb); have n2_ := Sd.mk (Kd.R_elder' (q32R HO252.out) (Kd.R_base ho0) hb); have n3_ := Sd.mk (Kd.R_lower (Kd.R_new' ho0 (Kd.R_lt (q32R HO252.out))) (below_size bel_)); have n4_ := Sd.mk (below_step bel_ hb); clear HO239; clear HO248; clear HO252; clear HB; have HO239 := n0_; have HO248 := n1_; have HO252 := n2_; have HO255 := n3_; have HB := n4_; clear n0_ n1_ n2_ n3_ n4_; (try clear hb); (try clear hb2); (try clear hk); (try clear hi); (try clear ho0); obtain ⟨Ao31, co31, eo31⟩ := Kd.R_slice HO252.out; subst eo31; obtain ⟨Ao32, co32, eo32⟩ := Kd.R_slice HO255.out; subst eo32) | (go_at_call 14; (with_reducible refine (r06Ints.calls k _ _ t250 _ _ t253 true _ ?side1 ?side2 ?side3 ?side4 A13.out).mono ?_); (case side1 => repeat (first | exact (Kd.R_reads' HO252.out).2.2 | (with_reducible refine Kd.C_alloc ?_ _) | (with_reducible refine Kd.C_drewN ?_ _) | (with_reducible refine Kd.C_drew ?_))); (case side2 => exact (Kd.R_reads' HO252.out).2.1); (case side3 => repeat (first | exact (Kd.R_reads' HO255.out).2.2 | (with_reducible refine Kd.C_alloc ?_ _) | (with_reducible refine Kd.C_drewN ?_ _) | (with_reducible refine Kd.C_drew ?_))); (case side4 => exact (Kd.R_reads' HO255.out).2.1); rintro e w' ⟨rfl, ⟨nd, rfl⟩⟩) | (go_at_call 17; (with_reducible refine (trace_Sent.calls _ _ l0 a1 t257 _ ?side1 ?side2 A15.out).mono ?_); (case side1 => repeat (first | exact (Kd.C_below HR0.out bel_) | (with_reducible refine Kd.C_alloc ?_ _) | (with_reducible refine Kd.C_drewN ?_ _) | (with_reducible refine Kd.C_drew ?_))); (case side2 => exact HC0.out); rintro e w33 ⟨v258, rfl, ho0, hb⟩; have n0_ := Sd.mk (Kd.V_elder' (q32V HO239.out) (Kd.R_base ho0) hb); have n1_ := Sd.mk (Kd.V_elder' (q32V HO248.out) (Kd.R_base ho0) hb); have n2_ := Sd.mk (Kd.R_elder' (q32R HO252.out) (Kd.R_base ho0) hb); have n3_ := Sd.mk (Kd.R_elder' (q32R HO255.out) (Kd.R_base ho0) hb); have n4_ := Sd.mk (Kd.R_lower (Kd.R_new' (Kd.R_new' ho0 (Kd.R_lt (q32R HO252.out))) (Kd.R_lt (q32R HO255.out))) (below_size bel_)); have n5_ := Sd.mk (below_step bel_ hb); clear HO239; clear HO248; clear HO252; clear HO255; clear HB; have HO239 := n0_; have HO248 := n1_; have HO252 := n2_; have HO255 := n3_; have HO259 := n4_; have HB := n5_; clear n0_ n1_ n2_ n3_ n4_ n5_; (try clear hb); (try clear hb2); (try clear hk); (try clear hi); (try clear ho0)) | (go_at_call 18; (with_reducible refine (r36Sent.calls k _ _ l0 a1 t260 _ ?side1 ?side2 A16.out).mono ?_); (case side1 => repeat (first | exact (Kd.C_below HR0.out HB.out) | (with_reducible refine Kd.C_alloc ?_ _) | (with_reducible refine Kd.C_drewN ?_ _) | (with_reducible refine Kd.C_drew ?_))); (case side2 => exact HC0.out); rintro e w34 ⟨v261, rfl, ho0, hb⟩; have n0_ := Sd.mk (Kd.V_elder' (q32V HO239.out) (Kd.R_base ho0) hb); have n1_ := Sd.mk (Kd.V_elder' (q32V HO248.out) (Kd.R_base ho0) hb); have n2_ := Sd.mk (Kd.R_elder' (q32R HO252.out) (Kd.R_base ho0) hb); have n3_ := Sd.mk (Kd.R_elder' (q32R HO255.out) (Kd.R_base ho0) hb); have n4_ := Sd.mk (Kd.R_elder' (q32R HO259.out) (Kd.R_base ho0) hb); have n5_ := Sd.mk (Kd.R_lower (Kd.R_new' (Kd.R_new' (Kd.R_new' ho0 (Kd.R_lt (q32R HO252.out))) (Kd.R_lt (q32R HO255.out))) (Kd.R_lt (q32R HO259.out))) (below_size bel_)); have n6_ := Sd.mk (below_step bel_ hb); clear HO239; clear HO248; clear HO252; clear HO255; clear HO259; clear HB; have HO239 := n0_; have HO248 := n1_; have HO252 := n2_; have HO255 := n3_; have HO259 := n4_; have HO262 := n5_; have HB := n6_; clear n0_ n1_ n2_ n3_ n4_ n5_ n6_; (try clear hb); (try clear hb2); (try clear hk); (try clear hi); (try clear ho0); obtain ⟨Ao35, co35, eo35⟩ := Kd.R_slice HO259.out; subst eo35; obtain ⟨Ao36, co36, eo36⟩ := Kd.R_slice HO262.out; subst eo36) | (go_at_call 14; (with_reducible refine (r06Ints.calls k _ _ t257 _ _ t260 true _ ?side1 ?side2 ?side3 ?side4 A17.out).mono ?_); (case side1 => repeat (first | exact (Kd.R_reads' HO259.out).2.2 | (with_reducible refine Kd.C_alloc ?_ _) | (with_reducible refine Kd.C_drewN ?_ _) | (with_reducible refine Kd.C_drew ?_))); (case side2 => exact (Kd.R_reads' HO259.out).2.1); (case side3 => repeat (first | exact (Kd.R_reads' HO262.out).2.2 | (with_reducible refine Kd.C_alloc ?_ _) | (with_reducible refine Kd.C_drewN ?_ _) | (with_reducible refine Kd.C_drew ?_))); (case side4 => exact (Kd.R_reads' HO262.out).2.1); rintro e w' ⟨rfl, ⟨nd, rfl⟩⟩) | (go_at_call 20; (with_reducible refine (trace_Got.calls _ _ l0 a1 a2 a3 t264 _ ?side1 ?side2 A19.out).mono ?_); (case side1 => repeat (first | exact (Kd.C_below HR0.out bel_) | (with_reducible refine Kd.C_alloc ?_ _) | (with_reducible refine Kd.C_drewN ?_ _) | (with_reducible refine Kd.C_drew ?_))); (case side2 => exact HC0.out); rintro e w37 ⟨v265, rfl, ho0, hb⟩; have n0_ := Sd.mk (Kd.V_elder' (q32V HO239.out) (Kd.R_base ho0) hb); have n1_ := Sd.mk (Kd.V_elder' (q32V HO248.out) (Kd.R_base ho0) hb); have n2_ := Sd.mk (Kd.R_below (q32R HO252.out) hb); have n3_ := Sd.mk (Kd.R_below (q32R HO255.out) hb); have n4_ := Sd.mk (Kd.R_below (q32R HO259.out) hb); have n5_ := Sd.mk (Kd.R_below (q32R HO262.out) hb); have n6_ := Sd.mk (Kd.R_lower ho0 (below_size bel_)); have n7_ := Sd.mk (below_step bel_ hb); clear HO239; clear HO248; clear HO252; clear HO255; clear HO259; clear HO262; clear HB; have HO239 := n0_; have HO248 := n1_; have HO252 := n2_; have HO255 := n3_; have HO259 := n4_; have HO262 := n5_; have HO266 := n6_; have HB := n7_; clear n0_ n1_ n2_ n3_ n4_ n5_ n6_ n7_; (try clear hb); (try clear hb2); (try clear hk); (try clear hi); (try clear ho0)) | (go_at_call 21; (with_reducible refine (r36Got.calls k _ _ l0 a1 a2 a3 t267 _ ?side1 ?side2 A20.out).mono ?_); (case side1 => repeat (first | exact (Kd.C_below HR0.out HB.out) | (with_reducible refine Kd.C_alloc ?_ _) | (with_reducible refine Kd.C_drewN ?_ _) | (with_reducible refine Kd.C_drew ?_))); (case side2 => exact HC0.out); rintro e w38 ⟨v268, rfl, ho0, hb⟩; have n0_ := Sd.mk (Kd.V_elder' (q32V HO239.out) (Kd.R_base ho0) hb); have n1_ := Sd.mk (Kd.V_elder' (q32V HO248.out) (Kd.R_base ho0) hb); have n2_ := Sd.mk (Kd.R_below (q32R HO252.out) hb); have n3_ := Sd.mk (Kd.R_below (q32R HO255.out) hb); have n4_ := Sd.mk (Kd.R_below (q32R HO259.out) hb); have n5_ := Sd.mk (Kd.R_below (q32R HO262.out) hb); have n6_ := Sd.mk (Kd.R_elder' (q32R HO266.out) (Kd.R_base ho0) hb); have n7_ := Sd.mk (Kd.R_lower (Kd.R_new' ho0 (Kd.R_lt (q32R HO266.out))) (below_size bel_)); have n8_ := Sd.mk (below_step bel_ hb); clear HO239; clear HO248; clear HO252; clear HO255; clear HO259; clear HO262; clear HO266; clear HB; have HO239 := n0_; have HO248 := n1_; have HO252 := n2_; have HO255 := n3_; have HO259 := n4_; have HO262 := n5_; have HO266 := n6_; have HO269 := n7_; have HB := n8_; clear n0_ n1_ n2_ n3_ n4_ n5_ n6_ n7_ n8_; (try clear hb); (try clear hb2); (try clear hk); (try clear hi); (try clear ho0); obtain ⟨Ao39, co39, eo39⟩ := Kd.R_slice HO266.out; subst eo39; obtain ⟨Ao40, co40, eo40⟩ := Kd.R_slice HO269.out; subst eo40) | (go_at_call 19; (with_reducible refine (r24Same.calls k _ _ t264 _ _ t267 true _ ?side1 ?side2 ?side3 ?side4 A21.out).mono ?_); (case side1 => repeat (first | exact (Kd.R_reads' HO266.out).2.2 | (with_reducible refine Kd.C_alloc ?_ _) | (with_reducible refine Kd.C_drewN ?_ _) | (with_reducible refine Kd.C_drew ?_))); (case side2 => exact (Kd.R_reads' HO266.out).2.1); (case side3 => repeat (first | exact (Kd.R_reads' HO269.out).2.2 | (with_reducible refine Kd.C_alloc ?_ _) | (with_reducible refine Kd.C_drewN ?_ _) | (with_reducible refine Kd.C_drew ?_))); (case side4 => exact (Kd.R_reads' HO269.out).2.1); rintro e w' ⟨rfl, ⟨nd, rfl⟩⟩) | (go_at_call 10; (with_reducible refine (l36known.calls k  t271 _ A23.out).mono ?_); rintro e w41 ⟨rfl, hb⟩; have n0_ := Sd.mk (Kd.V_below (q32V HO239.out) hb); have n1_ := Sd.mk (Kd.V_below (q32V HO248.out) hb); have n2_ := Sd.mk (Kd.R_below (q32R HO252.out) hb); have n3_ := Sd.mk (Kd.R_below (q32R HO255.out) hb); have n4_ := Sd.mk (Kd.R_below (q32R HO259.out) hb); have n5_ := Sd.mk (Kd.R_below (q32R HO262.out) hb); have n6_ := Sd.mk (Kd.R_below (q32R HO266.out) hb); have n7_ := Sd.mk (Kd.R_below (q32R HO269.out) hb); have n8_ := Sd.mk (below_step bel_ hb); clear HO239; clear HO248; clear HO252; clear HO255; clear HO259; clear HO262; clear HO266; clear HO269; clear HB; have HO239 := n0_; have HO248 := n1_; have HO252 := n2_; have HO255 := n3_; have HO259 := n4_; have HO262 := n5_; have HO266 := n6_; have HO269 := n7_; have HB := n8_; clear n0_ n1_ n2_ n3_ n4_ n5_ n6_ n7_ n8_; (try clear hb); (try clear hb2); (try clear hk); (try clear hi)))
      go_ret
      exact ⟨by first | rfl | (simp [errW_none, errW_some] <;> rfl) | (simp [*, errW_none, errW_some] <;> rfl), bel_⟩
     ·
      replace c22 := Bool.eq_false_iff.mpr c22
      subst c22
      have H1 : (some false) = some r := by rw [if_neg (show ¬ (false = true) by decide)] at H; exact H
      clear H
      have H := H1
      clear H1
      (have H3_ := Option.some.inj H; have H4_ := hT.out; rw [← H3_] at H4_; exact absurd H4_ (by decide))
    ·
     replace c18 := Bool.eq_false_iff.mpr c18
     subst c18
     have H1 : (some false) = some r := by rw [if_neg (show ¬ (false = true) by decide)] at H; exact H
     clear H
     have H := H1
     clear H1
     (have H3_ := Option.some.inj H; have H4_ := hT.out; rw [← H3_] at H4_; exact absurd H4_ (by decide))
   ·
    replace c14 := Bool.eq_false_iff.mpr c14
    subst c14
    have H1 : (some false) = some r := by rw [if_neg (show ¬ (false = true) by decide)] at H; exact H
    clear H
    have H := H1
    clear H1
    (have H3_ := Option.some.inj H; have H4_ := hT.out; rw [← H3_] at H4_; exact absurd H4_ (by decide))
  ·
   replace c10 := Bool.eq_false_iff.mpr c10
   subst c10
   have H1 : (some false) = some r := by rw [if_neg (show ¬ (false = true) by decide)] at H; exact H
   clear H
   have H := H1
   clear H1
   (have H3_ := Option.some.inj H; have H4_ := hT.out; rw [← H3_] at H4_; exact absurd H4_ (by decide))
 ·
  replace c6 := Bool.eq_false_iff.mpr c6
  subst c6
  have H1 : ((l36known.f k).bind fun t230 => (some t230)) = some r := by rw [if_neg (show ¬ (false = true) by decide)] at H; exact H
  clear H
  have H := H1
  clear H1
  replace H := Option.bind_eq_some_iff.mp H
  obtain ⟨t230, A420, H⟩ := H
  replace H : (some t230) = some r := H
  have A42 := Sd.mk A420
  clear A420
  obtain rfl := Option.some.inj H
  go_enter Try.func3, Try.ntmps3
  go_wp2_with (first | ((with_reducible refine gate_callee (f := 9) rfl ?_); refine goesL_ (some 10) rfl rfl Try.func9 (by kernel_rfl) rfl #[.slice A0 l0.length c0, .int .i64 200] rfl (by (try simp only [List.map_toArray, List.map_cons, List.map_nil]); first | done | rfl | (simp only [List.length_drop, List.length_take]; rfl)) ?_; (with_reducible refine (r36Few.calls k _ _ l0 200 false _ ?side1 ?side2 A5.out).mono ?_); (case side1 => repeat (first | exact HR0.out | (with_reducible refine Kd.C_alloc ?_ _) | (with_reducible refine Kd.C_drewN ?_ _) | (with_reducible refine Kd.C_drew ?_))); (case side2 => exact HC0.out); rintro e w' ⟨rfl, ⟨nd, rfl⟩⟩; refine ⟨_, rfl, ?_⟩) | ((with_reducible refine gate_callee (f := 10) rfl ?_); refine goesL_ (some 12) rfl rfl Try.func10 (by kernel_rfl) rfl #[] rfl (by (try simp only [List.map_toArray, List.map_cons, List.map_nil]); first | done | rfl | (simp only [List.length_drop, List.length_take]; rfl)) ?_; (with_reducible refine (l36known.calls k  t230 _ A42.out).mono ?_); rintro e w43 ⟨rfl, hb⟩; refine ⟨_, rfl, ?_⟩; have n0_ := Sd.mk (below_step bel_ hb); clear HB; have HB := n0_; clear n0_; (try clear hb); (try clear hb2); (try clear hk); (try clear hi)))
  go_ret
  exact ⟨by first | rfl | (simp [errW_none, errW_some] <;> rfl) | (simp [*, errW_none, errW_some] <;> rfl), bel_⟩
end Go.Proofs.Ytmdnmofcgmmfbaa.T
