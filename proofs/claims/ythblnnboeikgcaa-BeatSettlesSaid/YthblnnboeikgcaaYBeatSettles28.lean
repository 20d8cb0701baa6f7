import Derived.Test.YthblnnboeikgcaaYBeatSettles27
set_option maxHeartbeats 2000000
set_option maxRecDepth 100000
namespace Go.Proofs.Ythblnnboeikgcaa.B
open Go.RowKit Go.Proofs.YthblnnboeikgcaaW.PrintWords Go.Proofs.YthblnnboeikgcaaW.PrintLast Go.Proofs.YthblnnboeikgcaaW.PrintMore
attribute [local go_sem] max2_int min2_int max_two min_two max_three min_three max_four min_four   -- for this text's walks alone
set_option linter.unusedVariables false
set_option linter.unusedSimpArgs false
theorem vec_each.calls_Values (s : ByteArray) (V : List Int) (J : World → Prop) (w : World) (hV : V.length = s.size) (hs : s.size ≤ 140737488351232) (hr : ∀ j, j < s.size → 0 ≤ V.getD j 0 ∧ V.getD j 0 ≤ 100)
    (hst : ∀ W W1, J W → w.heap.size ≤ W.heap.size → Below w.heap.size W W1 → J W1)
    (hcall : ∀ (j : Nat) (W : World), j < s.size → J W → w.heap.size ≤ W.heap.size → Calls Try.prog 107 #[.int .i64 (j : Int), .int .u8 (bt s (j : Int))] W fun e W' => e = .returned (.int .i64 (V.getD j 0)) ∧ J W' ∧ W.heap.size ≤ W'.heap.size ∧ ∀ k, w.heap.size ≤ k → k < W.heap.size → W'.heap[k]? = W.heap[k]?)
    (h0 : J w) : Calls Try.prog 106 #[.string s, .func (.func 107) #[] #[]] w fun e w' => e = .returned (.string (strOfNums (V.map (fun d => 48 + d)))) ∧ J w' := by
  have HR := Sd.mk hr
  have HST := Sd.mk hst
  have HCALL := Sd.mk hcall
  have H0 := Sd.mk h0
  have HV : Sd ((V.map (fun d => 48 + d)).length = s.size) := ⟨by rw [List.length_map, hV]⟩
  have HVa : Sd (∀ j, j < s.size → (V.map (fun d => 48 + d)).getD j 0 = 48 + V.getD j 0) := ⟨fun j hj => by simp [List.getD_eq_getElem?_getD, show j < V.length by omega]⟩
  obtain ⟨VB, hVB⟩ : ∃ VB, V.map (fun d => 48 + d) = VB := ⟨_, rfl⟩
  rw [hVB] at HV HVa ⊢
  have hsz := hs
  have n0 : (s.size : Int).toNat * 1 ≤ 281474976710656 := by omega
  clear hr hst hcall h0 hVB hV
  by_cases hz : s.size = 0
  · have HZ := Sd.mk hz
    have hzb : decide ((0 : Int) < (s.size : Int)) = false := decide_eq_false (by omega)
    have hzb2 : decide (0 < s.size) = false := decide_eq_false (by omega)
    have hVn : VB = [] := List.eq_nil_of_length_eq_zero (by rw [HV.out, hz])
    subst hVn
    clear hz HV HVa
    go_enter Try.func106, Try.ntmps106
    go_wp2_with ((with_reducible refine gate_dst (N := 9) rfl ?_); refine Kd.R_make (Kd.int .u8) _ 5 rfl (N := 9) rfl 67 _ _ rfl (s.size : Int) rfl rfl Try.underlying67 (.int .u8 0) 1 info5 rfl (by decide) (by omega) (0 : Int) (ok := fun _ => True) (okp := fun _ => True) rfl (fun _ hk => hk) trivial (Int.natCast_nonneg _) n0 (Below.refl _ _) (Nat.le_refl _) ?_; intro v5 w1 ho hb hg_ hnew_; clear hg_ hnew_)
    have HB1 := Sd.mk hb
    rw [HZ.out, Int.toNat_natCast, List.replicate_zero] at ho
    have hcv := own_string (P := Try.prog) Try.underlying67 Try.underlying5 Try.underlying9 (Kd.own_of_R ho)
    clear ho hb
    go_loopw [12] (fun v12 wr => v12 = .int .i64 0 ∧ wr = w1) (fun _ _ => 0)
    case atStart => exact ⟨rfl, rfl⟩
    case round =>
      obtain ⟨rfl, rfl⟩ := hrel
      go_wp2
      go_ret
      exact ⟨rfl, HST.out _ _ H0.out (Nat.le_refl _) HB1.out⟩
  · have hz0 : 0 < s.size := by omega
    clear hz
    go_enter Try.func106, Try.ntmps106
    go_wp2_with ((with_reducible refine gate_dst (N := 9) rfl ?_); refine Kd.R_make (Kd.int .u8) _ 5 rfl (N := 9) rfl 67 _ _ rfl (s.size : Int) rfl rfl Try.underlying67 (.int .u8 0) 1 info5 rfl (by decide) (by omega) (0 : Int) (ok := fun _ => True) (okp := fun _ => True) rfl (fun _ hk => hk) trivial (Int.natCast_nonneg _) n0 (Below.refl _ _) (Nat.le_refl _) ?_; intro v5 w1 ho hb hg_ hnew_; clear hg_ hnew_)
    rw [Int.toNat_natCast] at ho
    obtain ⟨g5, cap, ev, gb, gl, cells5, gh⟩ := Kd.R_form ho (by rw [List.length_replicate]; exact hz0)
    rw [List.length_replicate] at ev
    subst ev
    have HO := Sd.mk (Kd.R_mono (Kd.R_bound ho) (fun k hk => hk.2.1))
    have HJ1 := Sd.mk (HST.out _ _ H0.out (Nat.le_refl _) hb)
    have HS1 := Sd.mk hb.size
    have GB := Sd.mk gb
    clear ho hb gb gl gh
    go_loopw [12] (fun v12 wr => ∃ j : Nat, v12 = .int .i64 j ∧ j ≤ s.size ∧ Sd (Kd.R (Kd.int .u8) 5 wr w.heap.size (fun k => w.heap.size ≤ k) (.slice (some ⟨g5, 0, none⟩) s.size cap) (KW.part 0 VB s.size j)) ∧ Sd (J wr) ∧ Sd (w.heap.size ≤ wr.heap.size)) (fun i _ => s.size - (intOf i).toNat)
    case atStart => exact ⟨0, rfl, Nat.zero_le _, ⟨by rw [KW.part_zero]; exact HO.out⟩, HJ1, HS1⟩
    case round =>
      clear HO HJ1 HS1
      obtain ⟨j, rfl, hj, HO, HJ, HS⟩ := hrel
      by_cases hlt : j < s.size
      · have hltb : decide ((j : Int) < (s.size : Int)) = true := decide_eq_true (by omega)
        have HVj := Sd.mk (HVa.out j hlt)
        have hrj := HR.out j hlt
        have HC := Sd.mk (HCALL.out j wr hlt HJ.out HS.out)
        generalize V.getD j 0 = y at HVj hrj HC
        obtain ⟨y0, y1⟩ := hrj
        have hmod : (48 + y) % 256 = 48 + y := by omega
        have hx6 : (((s[j]'hlt).toNat : Nat) : Int) = bt s (j : Int) := by simp [bt, hlt]
        have hjs : (j : Int) < (s.size : Int) := by omega
        obtain ⟨hz, hf⟩ := KW.get_int HO.out (KW.part_len HV.out hj) hlt
        have HCELL := Sd.mk hz
        clear hz hf
        go_wp2_with (go_at_call 107; (with_reducible refine HC.out.mono ?_); rintro e' w3 ⟨rfl, hj3, hs3, hk3⟩; have HO3 := Sd.mk (Kd.R_step HO.out (fun k hk hl => hk3 k hk hl)); have HJ3 := Sd.mk hj3; have HS3 := Sd.mk (Nat.le_trans HS.out hs3); clear hj3 hs3 hk3; obtain ⟨hz, hf⟩ := KW.get_int HO3.out (KW.part_len HV.out hj) hlt)
        go_roundw
        case rel => exact ⟨j + 1, by go_num, hlt, ⟨by rw [← KW.part_put HV.out hlt HVj.out]; exact KW.put_int HO3.out (KW.part_len HV.out hj) j _⟩, ⟨HST.out _ _ HJ3.out HS3.out ((Below.refl _ _).setCell (p := ⟨g5, j, none⟩) GB.out _)⟩, ⟨by rw [show ∀ (W : World) p v, (W.setCell p v).heap.size = W.heap.size from fun W p v => by simp]; exact HS3.out⟩⟩
        case measure => simp [intOf]; omega
      · have hje : j = s.size := by omega
        have hltb : decide ((j : Int) < (s.size : Int)) = false := decide_eq_false (by omega)
        rw [hje, KW.part_all HV.out] at HO
        have hcv := own_string (P := Try.prog) Try.underlying67 Try.underlying5 Try.underlying9 (by have := Kd.own_of_R HO.out; rwa [HV.out] at this)
        clear hje
        go_wp2
        go_ret
        exact ⟨rfl, HJ.out⟩
theorem vec_each.calls_Step (p0 : Value) (p1 : Value) (p2 : Value) (p3 : Value) (p4 : Value) (s : ByteArray) (V : List Int) (J : World → Prop) (w : World) (hV : V.length = s.size) (hs : s.size ≤ 140737488351232) (hr : ∀ j, j < s.size → 0 ≤ V.getD j 0 ∧ V.getD j 0 ≤ 100)
    (hst : ∀ W W1, J W → w.heap.size ≤ W.heap.size → Below w.heap.size W W1 → J W1)
    (hcall : ∀ (j : Nat) (W : World), j < s.size → J W → w.heap.size ≤ W.heap.size → Calls Try.prog 119 #[.int .i64 (j : Int), .int .u8 (bt s (j : Int)), p0, p1, p2, p3, p4] W fun e W' => e = .returned (.int .i64 (V.getD j 0)) ∧ J W' ∧ W.heap.size ≤ W'.heap.size ∧ ∀ k, w.heap.size ≤ k → k < W.heap.size → W'.heap[k]? = W.heap[k]?)
    (h0 : J w) : Calls Try.prog 106 #[.string s, .func (.func 119) #[] #[p0, p1, p2, p3, p4]] w fun e w' => e = .returned (.string (strOfNums (V.map (fun d => 48 + d)))) ∧ J w' := by
  have HR := Sd.mk hr
  have HST := Sd.mk hst
  have HCALL := Sd.mk hcall
  have H0 := Sd.mk h0
  have HV : Sd ((V.map (fun d => 48 + d)).length = s.size) := ⟨by rw [List.length_map, hV]⟩
  have HVa : Sd (∀ j, j < s.size → (V.map (fun d => 48 + d)).getD j 0 = 48 + V.getD j 0) := ⟨fun j hj => by simp [List.getD_eq_getElem?_getD, show j < V.length by omega]⟩
  obtain ⟨VB, hVB⟩ : ∃ VB, V.map (fun d => 48 + d) = VB := ⟨_, rfl⟩
  rw [hVB] at HV HVa ⊢
  have hsz := hs
  have n0 : (s.size : Int).toNat * 1 ≤ 281474976710656 := by omega
  clear hr hst hcall h0 hVB hV
  by_cases hz : s.size = 0
  · have HZ := Sd.mk hz
    have hzb : decide ((0 : Int) < (s.size : Int)) = false := decide_eq_false (by omega)
    have hzb2 : decide (0 < s.size) = false := decide_eq_false (by omega)
    have hVn : VB = [] := List.eq_nil_of_length_eq_zero (by rw [HV.out, hz])
    subst hVn
    clear hz HV HVa
    go_enter Try.func106, Try.ntmps106
    go_wp2_with ((with_reducible refine gate_dst (N := 9) rfl ?_); refine Kd.R_make (Kd.int .u8) _ 5 rfl (N := 9) rfl 67 _ _ rfl (s.size : Int) rfl rfl Try.underlying67 (.int .u8 0) 1 info5 rfl (by decide) (by omega) (0 : Int) (ok := fun _ => True) (okp := fun _ => True) rfl (fun _ hk => hk) trivial (Int.natCast_nonneg _) n0 (Below.refl _ _) (Nat.le_refl _) ?_; intro v5 w1 ho hb hg_ hnew_; clear hg_ hnew_)
    have HB1 := Sd.mk hb
    rw [HZ.out, Int.toNat_natCast, List.replicate_zero] at ho
    have hcv := own_string (P := Try.prog) Try.underlying67 Try.underlying5 Try.underlying9 (Kd.own_of_R ho)
    clear ho hb
    go_loopw [12] (fun v12 wr => v12 = .int .i64 0 ∧ wr = w1) (fun _ _ => 0)
    case atStart => exact ⟨rfl, rfl⟩
    case round =>
      obtain ⟨rfl, rfl⟩ := hrel
      go_wp2
      go_ret
      exact ⟨rfl, HST.out _ _ H0.out (Nat.le_refl _) HB1.out⟩
  · have hz0 : 0 < s.size := by omega
    clear hz
    go_enter Try.func106, Try.ntmps106
    go_wp2_with ((with_reducible refine gate_dst (N := 9) rfl ?_); refine Kd.R_make (Kd.int .u8) _ 5 rfl (N := 9) rfl 67 _ _ rfl (s.size : Int) rfl rfl Try.underlying67 (.int .u8 0) 1 info5 rfl (by decide) (by omega) (0 : Int) (ok := fun _ => True) (okp := fun _ => True) rfl (fun _ hk => hk) trivial (Int.natCast_nonneg _) n0 (Below.refl _ _) (Nat.le_refl _) ?_; intro v5 w1 ho hb hg_ hnew_; clear hg_ hnew_)
    rw [Int.toNat_natCast] at ho
    obtain ⟨g5, cap, ev, gb, gl, cells5, gh⟩ := Kd.R_form ho (by rw [List.length_replicate]; exact hz0)
    rw [List.length_replicate] at ev
    subst ev
    have HO := Sd.mk (Kd.R_mono (Kd.R_bound ho) (fun k hk => hk.2.1))
    have HJ1 := Sd.mk (HST.out _ _ H0.out (Nat.le_refl _) hb)
    have HS1 := Sd.mk hb.size
    have GB := Sd.mk gb
    clear ho hb gb gl gh
    go_loopw [12] (fun v12 wr => ∃ j : Nat, v12 = .int .i64 j ∧ j ≤ s.size ∧ Sd (Kd.R (Kd.int .u8) 5 wr w.heap.size (fun k => w.heap.size ≤ k) (.slice (some ⟨g5, 0, none⟩) s.size cap) (KW.part 0 VB s.size j)) ∧ Sd (J wr) ∧ Sd (w.heap.size ≤ wr.heap.size)) (fun i _ => s.size - (intOf i).toNat)
    case atStart => exact ⟨0, rfl, Nat.zero_le _, ⟨by rw [KW.part_zero]; exact HO.out⟩, HJ1, HS1⟩
    case round =>
      clear HO HJ1 HS1
      obtain ⟨j, rfl, hj, HO, HJ, HS⟩ := hrel
      by_cases hlt : j < s.size
      · have hltb : decide ((j : Int) < (s.size : Int)) = true := decide_eq_true (by omega)
        have HVj := Sd.mk (HVa.out j hlt)
        have hrj := HR.out j hlt
        have HC := Sd.mk (HCALL.out j wr hlt HJ.out HS.out)
        generalize V.getD j 0 = y at HVj hrj HC
        obtain ⟨y0, y1⟩ := hrj
        have hmod : (48 + y) % 256 = 48 + y := by omega
        have hx6 : (((s[j]'hlt).toNat : Nat) : Int) = bt s (j : Int) := by simp [bt, hlt]
        have hjs : (j : Int) < (s.size : Int) := by omega
        obtain ⟨hz, hf⟩ := KW.get_int HO.out (KW.part_len HV.out hj) hlt
        have HCELL := Sd.mk hz
        clear hz hf
        go_wp2_with (go_at_call 119; (with_reducible refine HC.out.mono ?_); rintro e' w3 ⟨rfl, hj3, hs3, hk3⟩; have HO3 := Sd.mk (Kd.R_step HO.out (fun k hk hl => hk3 k hk hl)); have HJ3 := Sd.mk hj3; have HS3 := Sd.mk (Nat.le_trans HS.out hs3); clear hj3 hs3 hk3; obtain ⟨hz, hf⟩ := KW.get_int HO3.out (KW.part_len HV.out hj) hlt)
        go_roundw
        case rel => exact ⟨j + 1, by go_num, hlt, ⟨by rw [← KW.part_put HV.out hlt HVj.out]; exact KW.put_int HO3.out (KW.part_len HV.out hj) j _⟩, ⟨HST.out _ _ HJ3.out HS3.out ((Below.refl _ _).setCell (p := ⟨g5, j, none⟩) GB.out _)⟩, ⟨by rw [show ∀ (W : World) p v, (W.setCell p v).heap.size = W.heap.size from fun W p v => by simp]; exact HS3.out⟩⟩
        case measure => simp [intOf]; omega
      · have hje : j = s.size := by omega
        have hltb : decide ((j : Int) < (s.size : Int)) = false := decide_eq_false (by omega)
        rw [hje, KW.part_all HV.out] at HO
        have hcv := own_string (P := Try.prog) Try.underlying67 Try.underlying5 Try.underlying9 (by have := Kd.own_of_R HO.out; rwa [HV.out] at this)
        clear hje
        go_wp2
        go_ret
        exact ⟨rfl, HJ.out⟩
end Go.Proofs.Ythblnnboeikgcaa.B
