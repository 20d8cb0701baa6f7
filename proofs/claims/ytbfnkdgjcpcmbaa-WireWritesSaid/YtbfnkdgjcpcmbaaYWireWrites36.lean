import Derived.Test.YtbfnkdgjcpcmbaaYWireWrites34
import Derived.Test.YtbfnkdgjcpcmbaaYWireWrites35
set_option maxHeartbeats 8000000
set_option maxRecDepth 100000
namespace Go.Proofs.Ytbfnkdgjcpcmbaa.X
open Go.RowKit Go.Proofs.YtbfnkdgjcpcmbaaW.PrintWords Go.Proofs.YtbfnkdgjcpcmbaaW.PrintLast Go.Proofs.YtbfnkdgjcpcmbaaW.PrintMore
attribute [local go_sem] max2_int min2_int max_two min_two max_three min_three max_four min_four   -- for this text's walks alone
set_option linter.unusedVariables false
set_option linter.unusedSimpArgs false
mutual
def wire_reader_digits.l0 : Nat → Int → List Int → Int → Int → ByteArray → Int → Bool → Option (ByteArray × ByteArray × Int × Bool)
 | 0, _, _, _, _, _, _, _ => none
 | k + 1, x1, x5, x10, x11, x1000, x1001, x1002 => if x11 < x10 then ((wire_reader_number.f k x1000 x1001 x1002).bind fun bt219 => (wire_reader_digits.l1 k x1 x5 bt219.1 x10 x11 (mn 4 (wrap64 (x1 - (x5.length : Int)))) 0 bt219.2.1 bt219.2.2.1 bt219.2.2.2)) else (some (strOfNums x5, x1000, x1001, x1002))
def wire_reader_digits.l1 : Nat → Int → List Int → Int → Int → Int → Int → Int → ByteArray → Int → Bool → Option (ByteArray × ByteArray × Int × Bool)
 | 0, _, _, _, _, _, _, _, _, _, _ => none
 | k + 1, x1, x5, x6, x10, x11, x19, x20, x1000, x1001, x1002 => if x20 < x19 then (if x5.length < 140737488355328 then (wire_reader_digits.l1 k x1 (x5 ++ [(wrap64 (48 + (Go.bits .and .i64 x6 3))) % 256]) (x6 / 4) x10 x11 x19 (wrap64 (x20 + 1)) x1000 x1001 x1002) else (none)) else (if x1002 = true then (wire_reader_digits.l0 k x1 x5 x10 (wrap64 (x11 + 1)) x1000 x1001 true) else (wire_reader_digits.l0 k x1 x5 x10 (wrap64 (x11 + 1)) x1000 x1001 (x6 != 0)))
end
def wire_reader_digits.f (k : Nat) (s0_0 : ByteArray) (s0_1 : Int) (s0_2 : Bool) (a1 : Int) : Option (ByteArray × ByteArray × Int × Bool) := if 0 ≤ a1 then (if (a1 : Int).toNat ≤ 281474976710656 then ((wire_packed.f a1).bind fun t218 => (wire_reader_digits.l0 k a1 (([] : List Int)) t218 0 s0_0 s0_1 s0_2)) else (none)) else (none)
theorem wire_reader_digits.mono_l : ∀ k, (∀ y0 y1 y2 y3 y4 y5 y6, LeO (wire_reader_digits.l0 k y0 y1 y2 y3 y4 y5 y6) (wire_reader_digits.l0 (k + 1) y0 y1 y2 y3 y4 y5 y6)) ∧ (∀ y0 y1 y2 y3 y4 y5 y6 y7 y8 y9, LeO (wire_reader_digits.l1 k y0 y1 y2 y3 y4 y5 y6 y7 y8 y9) (wire_reader_digits.l1 (k + 1) y0 y1 y2 y3 y4 y5 y6 y7 y8 y9))
 | 0 => ⟨fun _ _ _ _ _ _ _ r h => by simp [wire_reader_digits.l0] at h, fun _ _ _ _ _ _ _ _ _ _ r h => by simp [wire_reader_digits.l1] at h⟩
 | k + 1 => by
  obtain ⟨ih0, ih1⟩ := wire_reader_digits.mono_l k
  refine ⟨?_, ?_⟩
  ·
   intro y0 y1 y2 y3 y4 y5 y6
   unfold wire_reader_digits.l0
   repeat' first
   | (with_reducible exact ih0 _ _ _ _ _ _ _)
   | (with_reducible exact ih1 _ _ _ _ _ _ _ _ _ _)
   | (with_reducible exact wire_reader_number.mono _ _ _ _)
   | (with_reducible exact LeO.refl _)
   | (with_reducible exact LeO.none _)
   | (with_reducible refine LeO.ite ?_ ?_)
   | (with_reducible refine LeO.bind ?_ (fun _ => ?_))
   | exact ih0 _ _ _ _ _ _ _
   | exact ih1 _ _ _ _ _ _ _ _ _ _
   | exact wire_reader_number.mono _ _ _ _
   | exact LeO.none _
   | refine LeO.ite ?_ ?_
   | refine LeO.bind ?_ (fun _ => ?_)
  ·
   intro y0 y1 y2 y3 y4 y5 y6 y7 y8 y9
   unfold wire_reader_digits.l1
   repeat' first
   | (with_reducible exact ih0 _ _ _ _ _ _ _)
   | (with_reducible exact ih1 _ _ _ _ _ _ _ _ _ _)
   | (with_reducible exact wire_reader_number.mono _ _ _ _)
   | (with_reducible exact LeO.refl _)
   | (with_reducible exact LeO.none _)
   | (with_reducible refine LeO.ite ?_ ?_)
   | (with_reducible refine LeO.bind ?_ (fun _ => ?_))
   | exact ih0 _ _ _ _ _ _ _
   | exact ih1 _ _ _ _ _ _ _ _ _ _
   | exact wire_reader_number.mono _ _ _ _
   | exact LeO.none _
   | refine LeO.ite ?_ ?_
   | refine LeO.bind ?_ (fun _ => ?_)
theorem wire_reader_digits.mono : ∀ a0 a1 a2 a3 k, LeO (wire_reader_digits.f k a0 a1 a2 a3) (wire_reader_digits.f (k + 1) a0 a1 a2 a3) := by
 intro a0 a1 a2 a3 k
 obtain ⟨ih0, ih1⟩ := wire_reader_digits.mono_l k
 unfold wire_reader_digits.f
 repeat' first
   | (with_reducible exact ih0 _ _ _ _ _ _ _)
   | (with_reducible exact ih1 _ _ _ _ _ _ _ _ _ _)
   | (with_reducible exact wire_reader_number.mono _ _ _ _)
   | (with_reducible exact LeO.refl _)
   | (with_reducible exact LeO.none _)
   | (with_reducible refine LeO.ite ?_ ?_)
   | (with_reducible refine LeO.bind ?_ (fun _ => ?_))
   | exact ih0 _ _ _ _ _ _ _
   | exact ih1 _ _ _ _ _ _ _ _ _ _
   | exact wire_reader_number.mono _ _ _ _
   | exact LeO.none _
   | refine LeO.ite ?_ ?_
   | refine LeO.bind ?_ (fun _ => ?_)
theorem wire_reader_digits.calls {C : List Value} (k : Nat) (g : Nat) (s0_0 : ByteArray) (s0_1 : Int) (s0_2 : Bool) (a1 : Int) (r1 : ByteArray) (r2 : ByteArray) (r3 : Int) (r4 : Bool) (w0 w : World) (hI : IsB C w0 w g s0_0 s0_1 s0_2) (hB : Below w0.heap.size w0 w) (h : wire_reader_digits.f k s0_0 s0_1 s0_2 a1 = some (r1, r2, r3, r4)) :
  Calls Try.prog 78 #[.pointer (some ⟨g, 0, none⟩), .int .i64 a1] w fun e w' => e = .returned (.string r1) ∧ IsB C w0 w' g r2 r3 r4 ∧ Below w0.heap.size w0 w' ∧ KeepBut w w' g none := by
 have HI0 := Sd.mk hI
 have HK := Sd.mk (KeepBut.refl w g none)
 have HL := Sd.mk hB.size
 clear hI
 have HW0 := Sd.mk hB.size
 have HB := Sd.mk hB
 clear hB
 have H : (if 0 ≤ a1 then (if (a1 : Int).toNat ≤ 281474976710656 then ((wire_packed.f a1).bind fun t218 => (wire_reader_digits.l0 k a1 (([] : List Int)) t218 0 s0_0 s0_1 s0_2)) else (none)) else (none)) = some (r1, r2, r3, r4) := h
 clear h
 by_cases c3 : 0 ≤ a1
 ·
  rw [if_pos c3] at H
  have c3b0 := eq_true c3
  have c3b1 : decide (0 ≤ a1) = true := decide_eq_true c3
  clear c3
  by_cases c4 : (a1 : Int).toNat ≤ 281474976710656
  ·
   rw [if_pos c4] at H
   have c4b0 := eq_true c4
   have c4b1 : decide ((a1 : Int).toNat ≤ 281474976710656) = true := decide_eq_true c4
   clear c4
   obtain ⟨y215, hy215⟩ : ∃ y_ : List Int, y_ = (([] : List Int)) := ⟨_, rfl⟩
   replace H : ((wire_packed.f a1).bind fun t218 => (wire_reader_digits.l0 k a1 y215 t218 0 s0_0 s0_1 s0_2)) = some (r1, r2, r3, r4) := by first | (rw [hy215]; with_reducible exact H) | (have H2_ := (Option.bind_some _ _).symm.trans H; rw [hy215]; with_reducible exact H2_) | (have H2_ := (Option.bind_some _ _).symm.trans H; with_reducible exact H2_) | with_reducible exact H | (rw [hy215]; exact H) | exact H
   have Ny215 := Sd.mk hy215
   clear hy215
   replace H := Option.bind_eq_some_iff.mp H
   obtain ⟨t218, A50, H⟩ := H
   replace H : (wire_reader_digits.l0 k a1 y215 t218 0 s0_0 s0_1 s0_2) = some (r1, r2, r3, r4) := H
   have A5 := Sd.mk A50
   clear A50
   have H' := Sd.mk H
   clear H
   go_enter Try.func78, Try.ntmps78
   go_wp2_with (first | ((with_reducible refine gate_dst (N := 8) rfl ?_); refine Kd.R_make0 (Kd.int .u8) _ 5 rfl (N := 8) rfl 44 _ _ rfl a1 rfl rfl Try.underlying44 (.int .u8 0) 1 info5 (by decide) (ok := fun _ => True) trivial (of_decide_eq_true (by first | (with_reducible assumption) | assumption)) (Nat.le_trans (Nat.mul_le_mul_right _ (of_decide_eq_true (by first | (with_reducible assumption) | assumption) : a1.toNat ≤ 281474976710656)) (by omega)) (Below.refl _ _) (Nat.le_refl _) ?_; intro v216 w6 ho7 hb hg_ hnew_; clear hg_ hnew_; (first | rw [← Ny215.out] at ho7 | (simp only [Int.reduceToNat] at ho7; rw [← Ny215.out] at ho7)); have n0_ := Sd.mk (Kd.R_lower ho7 (keep_size (w := w) (g := g) (row := none) (by repeat (first | (with_reducible first | exact HK.out | apply KeepBut.set_ | apply keep_drewN | apply keep_drew | apply keep_alloc) | exact HK.out)))); have n1_ := Sd.mk (IsB.below (by repeat (first | (with_reducible first | exact HI0.out | apply IsB.alloc | apply IsB.drewN | apply IsB.drew | apply IsB.set_0 | apply IsB.set_1 | apply IsB.set_2) | exact HI0.out)) hb); have n2_ := Sd.mk (KeepBut.trans (by repeat (first | (with_reducible first | exact HK.out | apply KeepBut.set_ | apply keep_drewN | apply keep_drew | apply keep_alloc) | exact HK.out)) (KeepBut.of_below hb g none) (.inl rfl)); have n3_ := Sd.mk (below_step (by repeat (first | (with_reducible first | exact HB.out | apply below_alloc | apply pw_below_drewN | apply below_drew1 | refine below_set ?_ (IsB.ge HI0.out)) | exact HB.out)) hb); clear HI0; clear HK; clear HB; have HO217 := n0_; have HI0 := n1_; have HK := n2_; have HB := n3_; clear n0_ n1_ n2_ n3_; clear hb ho7) | ((with_reducible refine gate_callee (f := 90) rfl ?_); refine goesL_ (some 10) rfl rfl Try.func90 (by kernel_rfl) rfl #[.int .i64 a1] rfl (by (try simp only [List.map_toArray, List.map_cons, List.map_nil]); first | done | rfl | (simp only [List.length_drop, List.length_take]; rfl)) ?_; (with_reducible refine (wire_packed.calls a1 t218 _ A5.out).mono ?_); rintro e w' ⟨rfl, ⟨nd, rfl⟩⟩; refine ⟨_, rfl, ?_⟩))
   go_loopg [5, 11] k (fun kq v5 v11 w' => ∃ (x5_1 : List Int) (x11_1 : Int) (x1000_1 : ByteArray) (x1001_1 : Int) (x1002_1 : Bool), v11 = .int .i64 x11_1 ∧ Sd (wire_reader_digits.l0 kq a1 x5_1 t218 x11_1 x1000_1 x1001_1 x1002_1 = some (r1, r2, r3, r4)) ∧ Sd (kq ≤ k) ∧ Sd (Kd.R (Kd.int .u8) 5 w' w.heap.size (fun _ => True) v5 x5_1) ∧ Sd (IsB C w0 w' g x1000_1 x1001_1 x1002_1) ∧ Sd (KeepBut w w' g none) ∧ Sd (Below w0.heap.size w0 w'))
   case atStart => exact ⟨(y215), (0), (s0_0), (s0_1), (s0_2), (by first | rfl | (simp; done) | (simp [*]; done)), H', ⟨Nat.le_refl _⟩, ⟨by (with_reducible repeat (first | apply Kd.R_alloc | apply Kd.R_drewN | apply Kd.R_drew)); exact HO217.out⟩, ⟨by repeat (first | (with_reducible first | exact HI0.out | apply IsB.alloc | apply IsB.drewN | apply IsB.drew | apply IsB.set_0 | apply IsB.set_1 | apply IsB.set_2) | exact HI0.out)⟩, ⟨by repeat (first | (with_reducible first | exact HK.out | apply KeepBut.set_ | apply keep_drewN | apply keep_drew | apply keep_alloc) | exact HK.out)⟩, ⟨by repeat (first | (with_reducible first | exact HB.out | apply below_alloc | apply pw_below_drewN | apply below_drew1 | refine below_set ?_ (IsB.ge HI0.out)) | exact HB.out)⟩⟩
   case round =>
    clear H'
    try clear p2
    try clear c3
    try clear c3b0
    try clear c3b1
    try clear c4
    try clear c4b0
    try clear c4b1
    try clear c7
    obtain ⟨x5_1, x11_1, x1000_1, x1001_1, x1002_1, rfl, HA, HK1, HO_5, HI0, HK, HB⟩ := hrel
    cases gk with
    | zero => exact absurd HA.out (by simp [wire_reader_digits.l0])
    | succ k1 =>
     have H := HA.out
     clear HA
     simp only [wire_reader_digits.l0] at H
     by_cases c8 : x11_1 < t218
     ·
      rw [if_pos c8] at H
      have c8b0 : decide (x11_1 < t218) = true := decide_eq_true c8
      clear c8
      replace H := Option.bind_eq_some_iff.mp H
      obtain ⟨⟨t219, t220, t221, t222⟩, A90, H⟩ := H
      replace H : (wire_reader_digits.l1 k1 a1 x5_1 t219 t218 x11_1 (mn 4 (wrap64 (a1 - (x5_1.length : Int)))) 0 t220 t221 t222) = some (r1, r2, r3, r4) := H
      have A9 := Sd.mk A90
      clear A90
      obtain ⟨ji10, hji10⟩ : ∃ j_ : Int, (mn 4 (wrap64 (a1 - (x5_1.length : Int)))) = j_ := ⟨_, rfl⟩
      replace H : (wire_reader_digits.l1 k1 a1 x5_1 t219 t218 x11_1 ji10 0 t220 t221 t222) = some (r1, r2, r3, r4) := by first | (rw [hji10] at H; exact H) | (simp only [hji10] at H ⊢; exact H)
      (try rw [hji10] at A9)
      have hji10_ : (if (wrap64 (a1 - (x5_1.length : Int))) < 4 then (wrap64 (a1 - (x5_1.length : Int))) else 4) = ji10 := hji10
      (try (have hji10n_ := hji10_; simp only [Int.ofNat_lt, Int.ofNat_le] at hji10n_))
      have H' := Sd.mk H
      clear H
      go_wp2_with (first | ((with_reducible refine gate_callee (f := 77) rfl ?_); refine goesL_ (some 14) rfl rfl Try.func77 (by kernel_rfl) rfl #[.pointer (some ⟨g, 0, none⟩)] rfl (by (try simp only [List.map_toArray, List.map_cons, List.map_nil]); first | done | rfl | (simp only [List.length_drop, List.length_take]; rfl)) ?_; (with_reducible refine (wire_reader_number.calls (C := C) k1 g x1000_1 x1001_1 x1002_1 t219 t220 t221 t222 w0 _ ?side1 ?side2 A9.out).mono ?_); (case side1 => repeat (first | (with_reducible first | exact HI0.out | apply IsB.alloc | apply IsB.drewN | apply IsB.drew | apply IsB.set_0 | apply IsB.set_1 | apply IsB.set_2) | exact HI0.out)); (case side2 => repeat (first | (with_reducible first | exact HB.out | apply below_alloc | apply pw_below_drewN | apply below_drew1 | refine below_set ?_ (IsB.ge HI0.out)) | exact HB.out)); rintro e w11 ⟨rfl, hi, hb, hk⟩; refine ⟨_, rfl, ?_⟩; have n0_ := Sd.mk (Kd.R_mono (Kd.R_keep (IsB.apart (show IsB C w0 _ g x1000_1 x1001_1 x1002_1 from by repeat (first | (with_reducible first | exact HI0.out | apply IsB.alloc | apply IsB.drewN | apply IsB.drew | apply IsB.set_0 | apply IsB.set_1 | apply IsB.set_2) | exact HI0.out)) (by (with_reducible repeat (first | apply Kd.R_alloc | apply Kd.R_drewN | apply Kd.R_drew)); exact HO_5.out) (by decide)) hk (fun _ h => h.2)) (fun _ h => h.1)); have n1_ := Sd.mk (KeepBut.trans (by repeat (first | (with_reducible first | exact HK.out | apply KeepBut.set_ | apply keep_drewN | apply keep_drew | apply keep_alloc) | exact HK.out)) hk (.inl rfl)); have n2_ := Sd.mk (hb); have n3_ := Sd.mk (hi); clear HO_5; clear HK; clear HB; clear HI0; have HO_5 := n0_; have HK := n1_; have HB := n2_; have HI0 := n3_; clear n0_ n1_ n2_ n3_; (try clear hb); (try clear hb2); (try clear hk); (try clear hi); obtain ⟨Ao12, co12, eo12⟩ := Kd.R_slice HO_5.out; subst eo12))
      go_loopg [5, 6, 20] k1 (fun kq v5 v6 v20 w' => ∃ (x5_2 : List Int) (x6_2 : Int) (x20_2 : Int), v6 = .int .i64 x6_2 ∧ v20 = .int .i64 x20_2 ∧ Sd (wire_reader_digits.l1 kq a1 x5_2 x6_2 t218 x11_1 ji10 x20_2 t220 t221 t222 = some (r1, r2, r3, r4)) ∧ Sd (kq ≤ k1) ∧ Sd (Kd.R (Kd.int .u8) 5 w' w.heap.size (fun _ => True) v5 x5_2) ∧ Sd (IsB C w0 w' g t220 t221 t222) ∧ Sd (KeepBut w w' g none) ∧ Sd (Below w0.heap.size w0 w'))
      case atStart => exact ⟨(x5_1), (t219), (0), (by first | rfl | (simp; done) | (simp [*]; done)), (by first | rfl | (simp; done) | (simp [*]; done)), H', ⟨Nat.le_refl _⟩, ⟨by (with_reducible repeat (first | apply Kd.R_alloc | apply Kd.R_drewN | apply Kd.R_drew)); exact HO_5.out⟩, ⟨by repeat (first | (with_reducible first | exact HI0.out | apply IsB.alloc | apply IsB.drewN | apply IsB.drew | apply IsB.set_0 | apply IsB.set_1 | apply IsB.set_2) | exact HI0.out)⟩, ⟨by repeat (first | (with_reducible first | exact HK.out | apply KeepBut.set_ | apply keep_drewN | apply keep_drew | apply keep_alloc) | exact HK.out)⟩, ⟨by repeat (first | (with_reducible first | exact HB.out | apply below_alloc | apply pw_below_drewN | apply below_drew1 | refine below_set ?_ (IsB.ge HI0.out)) | exact HB.out)⟩⟩
      case round =>
       clear H'
       try clear p2
       try clear c3
       try clear c3b0
       try clear c3b1
       try clear c4
       try clear c4b0
       try clear c4b1
       try clear p6
       try clear c7
       try clear c8
       try clear c8b0
       try clear c9
       try clear p2
       obtain ⟨x5_2, x6_2, x20_2, rfl, rfl, HA, HK2, HO_5, HI0, HK, HB⟩ := hrel
       cases gk with
       | zero => exact absurd HA.out (by simp [wire_reader_digits.l1])
       | succ k2 =>
        have H := HA.out
        clear HA
        simp only [wire_reader_digits.l1] at H
        by_cases c13 : x20_2 < ji10
        ·
         rw [if_pos c13] at H
         have c13b0 : decide (x20_2 < ji10) = true := decide_eq_true c13
         clear c13
         by_cases c14 : x5_2.length < 140737488355328
         ·
          rw [if_pos c14] at H
          have LMc14 := Sd.mk c14
          clear c14
          obtain ⟨y223, hy223⟩ : ∃ y_ : List Int, y_ = (x5_2 ++ [(wrap64 (48 + (Go.bits .and .i64 x6_2 3))) % 256]) := ⟨_, rfl⟩
          replace H : (wire_reader_digits.l1 k2 a1 y223 (x6_2 / 4) t218 x11_1 ji10 (wrap64 (x20_2 + 1)) t220 t221 t222) = some (r1, r2, r3, r4) := by first | (rw [hy223]; with_reducible exact H) | (have H2_ := (Option.bind_some _ _).symm.trans H; rw [hy223]; with_reducible exact H2_) | (have H2_ := (Option.bind_some _ _).symm.trans H; with_reducible exact H2_) | with_reducible exact H | (rw [hy223]; exact H) | exact H
          have Ny223 := Sd.mk hy223
          clear hy223
          have H' := Sd.mk H
          clear H
          go_wp2_with (first | ((with_reducible refine gate_builtin (b := .append) (xs := #[.tmp 22, .tmp 27]) rfl ?_); at_builtin; refine Kd.R_append (Kd.int .u8) w.heap.size rfl (.tmp 22) (.tmp 27) 44 5 (.int .u8 0) 1 rfl Try.underlying44 info5 rfl (by decide) (by omega) u5 x5_2 ((wrap64 (48 + (Go.bits .and .i64 x6_2 3))) % 256) [.int .u8 ((wrap64 (48 + (Go.bits .and .i64 x6_2 3))) % 256)] (fun _ => True) (fun _ => False) rfl rfl ?aP (fun _ hk => hk.elim) ?aF ?aO (Below.refl _ _) ?aS ?aL ?_; (case aP => exact rfl); (case aF => exact (fun _ _ => trivial)); (case aO => exact (by (with_reducible repeat (first | apply Kd.R_alloc | apply Kd.R_drewN | apply Kd.R_drew)); exact HO_5.out)); (case aS => exact (keep_size (w := w) (g := g) (row := none) (by repeat (first | (with_reducible first | exact HK.out | apply KeepBut.set_ | apply keep_drewN | apply keep_drew | apply keep_alloc) | exact HK.out)))); (case aL => have := LMc14.out; omega); intro v224 w15 ho hb hg hat; rw [← Ny223.out] at ho; have n0_ := Sd.mk (IsB.grown (by repeat (first | (with_reducible first | exact HI0.out | apply IsB.alloc | apply IsB.drewN | apply IsB.drew | apply IsB.set_0 | apply IsB.set_1 | apply IsB.set_2) | exact HI0.out)) hg (IsB.own_ne HI0.out HO_5.out (by decide))); have n1_ := Sd.mk (below_weaken (by repeat (first | (with_reducible first | exact HB.out | apply below_alloc | apply pw_below_drewN | apply below_drew1 | refine below_set ?_ (IsB.ge HI0.out)) | exact HB.out)) HL.out hb); have n2_ := Sd.mk (KeepBut.trans (by repeat (first | (with_reducible first | exact HK.out | apply KeepBut.set_ | apply keep_drewN | apply keep_drew | apply keep_alloc) | exact HK.out)) (KeepBut.of_grown hg g) (Kd.R_base2 HO_5.out)); have n3_ := Sd.mk (ho); clear HI0; clear HB; clear HK; clear HO_5; have HI0 := n0_; have HB := n1_; have HK := n2_; have HO225 := n3_; clear n0_ n1_ n2_ n3_; clear ho hb hg hat))
          go_roundg k2
          case measure => have := HK1.out; have := HK2.out; omega
          case rel => exact ⟨(y223), (x6_2 / 4), (wrap64 (x20_2 + 1)), (by first | rfl | (simp; done) | (simp [*]; done)), (by first | rfl | (simp; done) | (simp [*]; done)), H', ⟨by have := HK1.out; have := HK2.out; omega⟩, ⟨by (with_reducible repeat (first | apply Kd.R_alloc | apply Kd.R_drewN | apply Kd.R_drew)); exact HO225.out⟩, ⟨by repeat (first | (with_reducible first | exact HI0.out | apply IsB.alloc | apply IsB.drewN | apply IsB.drew | apply IsB.set_0 | apply IsB.set_1 | apply IsB.set_2) | exact HI0.out)⟩, ⟨by repeat (first | (with_reducible first | exact HK.out | apply KeepBut.set_ | apply keep_drewN | apply keep_drew | apply keep_alloc) | exact HK.out)⟩, ⟨by repeat (first | (with_reducible first | exact HB.out | apply below_alloc | apply pw_below_drewN | apply below_drew1 | refine below_set ?_ (IsB.ge HI0.out)) | exact HB.out)⟩⟩
         ·
          rw [if_neg c14] at H
          exact absurd H (by simp)
        ·
         rw [if_neg c13] at H
         have c13b0 : decide (x20_2 < ji10) = false := decide_eq_false c13
         clear c13
         by_cases c16 : t222 = true
         ·
          subst c16
          have H1 : (wire_reader_digits.l0 k2 a1 x5_2 t218 (wrap64 (x11_1 + 1)) t220 t221 true) = some (r1, r2, r3, r4) := by rw [if_pos rfl] at H; exact H
          clear H
          have H := H1
          clear H1
          have H' := Sd.mk H
          clear H
          obtain ⟨HGz17, hgz17⟩ := HI0.out
          have z17_0 := cellB_0 HGz17
          have z17_1 := cellB_1 HGz17
          have z17_2 := cellB_2 HGz17
          have j17_0 := blk_frozen HGz17 0
          have j17_1 := blk_frozen HGz17 1
          have j17_2 := blk_frozen HGz17 2
          clear HGz17 hgz17
          go_wp2
          go_roundg k2
          case measure => have := HK1.out; have := HK2.out; omega
          case rel => exact ⟨(x5_2), (wrap64 (x11_1 + 1)), (t220), (t221), (true), (by first | rfl | (simp; done) | (simp [*]; done)), H', ⟨by have := HK1.out; have := HK2.out; omega⟩, ⟨by (with_reducible repeat (first | apply Kd.R_alloc | apply Kd.R_drewN | apply Kd.R_drew)); exact Kd.R_mono (Kd.R_far (p := ⟨g, 2, none⟩) (IsB.apart HI0.out HO_5.out (by decide)) (fun _ hk => hk.2) (.bool true)) (fun _ hk => trivial)⟩, ⟨by repeat (first | (with_reducible first | exact HI0.out | apply IsB.alloc | apply IsB.drewN | apply IsB.drew | apply IsB.set_0 | apply IsB.set_1 | apply IsB.set_2) | exact HI0.out)⟩, ⟨by repeat (first | (with_reducible first | exact HK.out | apply KeepBut.set_ | apply keep_drewN | apply keep_drew | apply keep_alloc) | exact HK.out)⟩, ⟨by repeat (first | (with_reducible first | exact HB.out | apply below_alloc | apply pw_below_drewN | apply below_drew1 | refine below_set ?_ (IsB.ge HI0.out)) | exact HB.out)⟩⟩
         ·
          replace c16 := Bool.eq_false_iff.mpr c16
          subst c16
          have H1 : (wire_reader_digits.l0 k2 a1 x5_2 t218 (wrap64 (x11_1 + 1)) t220 t221 (x6_2 != 0)) = some (r1, r2, r3, r4) := by rw [if_neg (show ¬ (false = true) by decide)] at H; exact H
          clear H
          have H := H1
          clear H1
          have H' := Sd.mk H
          clear H
          obtain ⟨HGz18, hgz18⟩ := HI0.out
          have z18_0 := cellB_0 HGz18
          have z18_1 := cellB_1 HGz18
          have z18_2 := cellB_2 HGz18
          have j18_0 := blk_frozen HGz18 0
          have j18_1 := blk_frozen HGz18 1
          have j18_2 := blk_frozen HGz18 2
          clear HGz18 hgz18
          go_wp2
          go_roundg k2
          case measure => have := HK1.out; have := HK2.out; omega
          case rel => exact ⟨(x5_2), (wrap64 (x11_1 + 1)), (t220), (t221), ((x6_2 != 0)), (by first | rfl | (simp; done) | (simp [*]; done)), H', ⟨by have := HK1.out; have := HK2.out; omega⟩, ⟨by (with_reducible repeat (first | apply Kd.R_alloc | apply Kd.R_drewN | apply Kd.R_drew)); exact Kd.R_mono (Kd.R_far (p := ⟨g, 2, none⟩) (IsB.apart HI0.out HO_5.out (by decide)) (fun _ hk => hk.2) (.bool (x6_2 != 0))) (fun _ hk => trivial)⟩, ⟨by repeat (first | (with_reducible first | exact HI0.out | apply IsB.alloc | apply IsB.drewN | apply IsB.drew | apply IsB.set_0 | apply IsB.set_1 | apply IsB.set_2) | exact HI0.out)⟩, ⟨by repeat (first | (with_reducible first | exact HK.out | apply KeepBut.set_ | apply keep_drewN | apply keep_drew | apply keep_alloc) | exact HK.out)⟩, ⟨by repeat (first | (with_reducible first | exact HB.out | apply below_alloc | apply pw_below_drewN | apply below_drew1 | refine below_set ?_ (IsB.ge HI0.out)) | exact HB.out)⟩⟩
     ·
      rw [if_neg c8] at H
      have c8b0 : decide (x11_1 < t218) = false := decide_eq_false c8
      clear c8
      simp only [Option.some.injEq, Prod.mk.injEq] at H
      obtain ⟨rfl, rfl, rfl, rfl⟩ := H
      have hcv19 := own_string (P := Try.prog) Try.underlying44 Try.underlying5 Try.underlying9 (Kd.own_of_R HO_5.out)
      go_wp2
      go_ret
      exact ⟨by first | rfl | (simp [errW_none, errW_some] <;> rfl) | (simp [*, errW_none, errW_some] <;> rfl), by repeat (first | (with_reducible first | exact HI0.out | apply IsB.alloc | apply IsB.drewN | apply IsB.drew | apply IsB.set_0 | apply IsB.set_1 | apply IsB.set_2) | exact HI0.out), by repeat (first | (with_reducible first | exact HB.out | apply below_alloc | apply pw_below_drewN | apply below_drew1 | refine below_set ?_ (IsB.ge HI0.out)) | exact HB.out), by repeat (first | (with_reducible first | exact HK.out | apply KeepBut.set_ | apply keep_drewN | apply keep_drew | apply keep_alloc) | exact HK.out)⟩
  ·
   rw [if_neg c4] at H
   exact absurd H (by simp)
 ·
  rw [if_neg c3] at H
  exact absurd H (by simp)
end Go.Proofs.Ytbfnkdgjcpcmbaa.X
