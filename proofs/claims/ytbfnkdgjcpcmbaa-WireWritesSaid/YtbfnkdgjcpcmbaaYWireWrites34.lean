import Derived.Test.YtbfnkdgjcpcmbaaYWireWrites31
set_option maxHeartbeats 8000000
set_option maxRecDepth 100000
namespace Go.Proofs.Ytbfnkdgjcpcmbaa.X
open Go.RowKit Go.Proofs.YtbfnkdgjcpcmbaaW.PrintWords Go.Proofs.YtbfnkdgjcpcmbaaW.PrintLast Go.Proofs.YtbfnkdgjcpcmbaaW.PrintMore
attribute [local go_sem] max2_int min2_int max_two min_two max_three min_three max_four min_four   -- for this text's walks alone
set_option linter.unusedVariables false
set_option linter.unusedSimpArgs false
def IsB (C : List Value) (w0 W : World) (g : Nat) (f0 : ByteArray) (f1 : Int) (f2 : Bool) : Prop := W.heap[g]? = some (.cells ([Value.string f0, Value.int .i64 f1, Value.bool f2] ++ C).toArray 65 (0, 0)) ∧ w0.heap.size ≤ g
theorem IsB.grown {C : List Value} {w0 W : World} {g : Nat} {f0 : ByteArray} {f1 : Int} {f2 : Bool} {W1 : World} {row : Option Nat} (h : IsB C w0 W g f0 f1 f2) (hw : W.grownBy W1 row) (hne : some g ≠ row) : IsB C w0 W1 g f0 f1 f2 := by
 obtain ⟨hb, hg⟩ := h
 exact ⟨blk_grown hb hw hne, hg⟩
theorem IsB.kept {C : List Value} {w0 W : World} {g : Nat} {f0 : ByteArray} {f1 : Int} {f2 : Bool} {W1 : World} {S : Nat → Prop} (h : IsB C w0 W g f0 f1 f2) (hk : Kept W W1 S) (hne : ¬ S g) : IsB C w0 W1 g f0 f1 f2 := by
 obtain ⟨hb, hg⟩ := h
 exact ⟨blk_kept hb hk hne, hg⟩
theorem IsB.below {C : List Value} {w0 W : World} {g : Nat} {f0 : ByteArray} {f1 : Int} {f2 : Bool} {W1 : World} (h : IsB C w0 W g f0 f1 f2) (hw : Below W.heap.size W W1) : IsB C w0 W1 g f0 f1 f2 := h.grown (grown_of_below hw none) (by simp)
theorem IsB.alloc {C : List Value} {w0 W : World} {g : Nat} {f0 : ByteArray} {f1 : Int} {f2 : Bool} (h : IsB C w0 W g f0 f1 f2) (o : Obj) : IsB C w0 (W.alloc o) g f0 f1 f2 := h.below (below_alloc (Below.refl _ _) o)
theorem IsB.drewN {C : List Value} {w0 W : World} {g : Nat} {f0 : ByteArray} {f1 : Int} {f2 : Bool} (h : IsB C w0 W g f0 f1 f2) (m : Nat) : IsB C w0 (W.drewN m) g f0 f1 f2 := h
theorem IsB.drew {C : List Value} {w0 W : World} {g : Nat} {f0 : ByteArray} {f1 : Int} {f2 : Bool} (h : IsB C w0 W g f0 f1 f2) : IsB C w0 W.drew g f0 f1 f2 := h
theorem IsB.at_ {C : List Value} {w0 W : World} {g : Nat} {f0 : ByteArray} {f1 : Int} {f2 : Bool} {w' : World} {m : Nat} (hq : W.drewN m = w') (h : IsB C w0 W g f0 f1 f2) : IsB C w0 w' g f0 f1 f2 := by subst hq; exact IsB.drewN h m
theorem IsB.apart {C : List Value} {w0 W : World} {g : Nat} {f0 : ByteArray} {f1 : Int} {f2 : Bool} {α : Type} {d : Kd α} {e : Nat} {base : Nat} {ok : Nat → Prop} {v : Value} {xs : List α} (h : IsB C w0 W g f0 f1 f2) (ho : d.R e W base ok v xs) (ht : ∀ q, q ∈ e :: d.E → q ≠ 65) : d.R e W base (fun k => ok k ∧ k ≠ g) v xs := by
 obtain ⟨hb, hg⟩ := h
 exact Kd.R_types ho hb ht
theorem IsB.own_ne {C : List Value} {w0 W : World} {g : Nat} {f0 : ByteArray} {f1 : Int} {f2 : Bool} {α : Type} {d : Kd α} {e : Nat} {base : Nat} {ok : Nat → Prop} {v : Value} {xs : List α} (h : IsB C w0 W g f0 f1 f2) (ho : d.R e W base ok v xs) (ht : e ≠ 65) : some g ≠ v.ownBlock := by
 obtain ⟨hb, hg⟩ := h
 exact Kd.R_ne ho hb ht
theorem IsB.lt {C : List Value} {w0 W : World} {g : Nat} {f0 : ByteArray} {f1 : Int} {f2 : Bool} (h : IsB C w0 W g f0 f1 f2) : g < W.heap.size := by
 obtain ⟨hb, hg⟩ := h
 exact blk_lt hb
theorem IsB.ge {C : List Value} {w0 W : World} {g : Nat} {f0 : ByteArray} {f1 : Int} {f2 : Bool} (h : IsB C w0 W g f0 f1 f2) : w0.heap.size ≤ g := by
 obtain ⟨hb, hg⟩ := h
 exact hg
theorem IsB.far {C : List Value} {w0 W : World} {g : Nat} {f0 : ByteArray} {f1 : Int} {f2 : Bool} {p : Addr} (h : IsB C w0 W g f0 f1 f2) (hne : g ≠ p.block) (u : Value) : IsB C w0 (W.setCell p u) g f0 f1 f2 := by
 obtain ⟨hb, hg⟩ := h
 exact ⟨blk_far hb hne u, hg⟩
theorem cellB_0 {C : List Value} {W : World} {g : Nat} {f0 : ByteArray} {f1 : Int} {f2 : Bool} (h : W.heap[g]? = some (.cells ([Value.string f0, Value.int .i64 f1, Value.bool f2] ++ C).toArray 65 (0, 0))) : W.cell? ⟨g, 0, none⟩ = some (.string f0) := (blk_cell h 0).trans (by simp)
theorem IsB.set_0 {C : List Value} {w0 W : World} {g : Nat} {f0 : ByteArray} {f1 : Int} {f2 : Bool} (h : IsB C w0 W g f0 f1 f2) (x : ByteArray) : IsB C w0 (W.setCell ⟨g, 0, none⟩ (.string x)) g x f1 f2 := by
 obtain ⟨hb, hg⟩ := h
 exact ⟨by simpa using blk_set hb 0 (.string x), hg⟩
theorem cellB_1 {C : List Value} {W : World} {g : Nat} {f0 : ByteArray} {f1 : Int} {f2 : Bool} (h : W.heap[g]? = some (.cells ([Value.string f0, Value.int .i64 f1, Value.bool f2] ++ C).toArray 65 (0, 0))) : W.cell? ⟨g, 1, none⟩ = some (.int .i64 f1) := (blk_cell h 1).trans (by simp)
theorem IsB.set_1 {C : List Value} {w0 W : World} {g : Nat} {f0 : ByteArray} {f1 : Int} {f2 : Bool} (h : IsB C w0 W g f0 f1 f2) (x : Int) : IsB C w0 (W.setCell ⟨g, 1, none⟩ (.int .i64 x)) g f0 x f2 := by
 obtain ⟨hb, hg⟩ := h
 exact ⟨by simpa using blk_set hb 1 (.int .i64 x), hg⟩
theorem cellB_2 {C : List Value} {W : World} {g : Nat} {f0 : ByteArray} {f1 : Int} {f2 : Bool} (h : W.heap[g]? = some (.cells ([Value.string f0, Value.int .i64 f1, Value.bool f2] ++ C).toArray 65 (0, 0))) : W.cell? ⟨g, 2, none⟩ = some (.bool f2) := (blk_cell h 2).trans (by simp)
theorem IsB.set_2 {C : List Value} {w0 W : World} {g : Nat} {f0 : ByteArray} {f1 : Int} {f2 : Bool} (h : IsB C w0 W g f0 f1 f2) (x : Bool) : IsB C w0 (W.setCell ⟨g, 2, none⟩ (.bool x)) g f0 f1 x := by
 obtain ⟨hb, hg⟩ := h
 exact ⟨by simpa using blk_set hb 2 (.bool x), hg⟩
def wire_reader_number.f (k : Nat) (s0_0 : ByteArray) (s0_1 : Int) (s0_2 : Bool) : Option (Int × ByteArray × Int × Bool) := (num_Get.f k s0_0 s0_1 1).bind fun bt213 => (if bt213.2 = 0 then (some (bt213.1, s0_0, wrap64 (s0_1 + 1), s0_2)) else (some (0, s0_0, s0_1, true)))
theorem wire_reader_number.mono : ∀ a0 a1 a2 k, LeO (wire_reader_number.f k a0 a1 a2) (wire_reader_number.f (k + 1) a0 a1 a2) := by
 intro a0 a1 a2 k
 unfold wire_reader_number.f
 repeat' first
   | (with_reducible exact num_Get.mono _ _ _ _)
   | (with_reducible exact LeO.refl _)
   | (with_reducible exact LeO.none _)
   | (with_reducible refine LeO.ite ?_ ?_)
   | (with_reducible refine LeO.bind ?_ (fun _ => ?_))
   | exact num_Get.mono _ _ _ _
   | exact LeO.none _
   | refine LeO.ite ?_ ?_
   | refine LeO.bind ?_ (fun _ => ?_)
theorem wire_reader_number.calls {C : List Value} (k : Nat) (g : Nat) (s0_0 : ByteArray) (s0_1 : Int) (s0_2 : Bool) (r1 : Int) (r2 : ByteArray) (r3 : Int) (r4 : Bool) (w0 w : World) (hI : IsB C w0 w g s0_0 s0_1 s0_2) (hB : Below w0.heap.size w0 w) (h : wire_reader_number.f k s0_0 s0_1 s0_2 = some (r1, r2, r3, r4)) :
  Calls Try.prog 77 #[.pointer (some ⟨g, 0, none⟩)] w fun e w' => e = .returned (.int .i64 r1) ∧ IsB C w0 w' g r2 r3 r4 ∧ Below w0.heap.size w0 w' ∧ KeepBut w w' g none := by
 have HI0 := Sd.mk hI
 have HK := Sd.mk (KeepBut.refl w g none)
 have HL := Sd.mk hB.size
 clear hI
 have HW0 := Sd.mk hB.size
 have HB := Sd.mk hB
 clear hB
 have H : ((num_Get.f k s0_0 s0_1 1).bind fun bt213 => (if bt213.2 = 0 then (some (bt213.1, s0_0, wrap64 (s0_1 + 1), s0_2)) else (some (0, s0_0, s0_1, true)))) = some (r1, r2, r3, r4) := h
 clear h
 replace H := Option.bind_eq_some_iff.mp H
 obtain ⟨⟨t213, t214⟩, A20, H⟩ := H
 replace H : (if t214 = 0 then (some (t213, s0_0, wrap64 (s0_1 + 1), s0_2)) else (some (0, s0_0, s0_1, true))) = some (r1, r2, r3, r4) := H
 have A2 := Sd.mk A20
 clear A20
 by_cases c3 : t214 = 0
 ·
  rw [if_pos c3] at H
  have c3b0 : (t214 == 0) = true := beq_iff_eq.mpr c3
  have c3b1 : (t214 != 0) = false := bne_eq_false_iff_eq.mpr c3
  clear c3
  simp only [Option.some.injEq, Prod.mk.injEq] at H
  obtain ⟨rfl, rfl, rfl, rfl⟩ := H
  obtain ⟨HGz4, hgz4⟩ := HI0.out
  have z4_0 := cellB_0 HGz4
  have z4_1 := cellB_1 HGz4
  have z4_2 := cellB_2 HGz4
  have j4_0 := blk_frozen HGz4 0
  have j4_1 := blk_frozen HGz4 1
  have j4_2 := blk_frozen HGz4 2
  clear HGz4 hgz4
  go_enter Try.func77, Try.ntmps77
  go_wp2_with (first | (go_at_call 76; (with_reducible refine (num_Get.calls k s0_0 s0_1 1 t213 t214 _ A2.out).mono ?_); rintro e w' ⟨rfl, ⟨nd, rfl⟩⟩; (try first | exact ⟨rfl, _, World.drewN_drewN _ _ _⟩ | exact ⟨rfl, _, Eq.trans (World.drewN_drewN _ _ _) (congrArg (World.drewN _) (Nat.add_assoc _ _ _))⟩)))
  repeat (go_quiet (first | (go_at_call 76; (with_reducible refine (num_Get.calls k s0_0 s0_1 1 t213 t214 _ A2.out).mono ?_); rintro e w' ⟨rfl, ⟨nd, rfl⟩⟩; (try first | exact ⟨rfl, _, World.drewN_drewN _ _ _⟩ | exact ⟨rfl, _, Eq.trans (World.drewN_drewN _ _ _) (congrArg (World.drewN _) (Nat.add_assoc _ _ _))⟩))); try go_wp2_with (first | (go_at_call 76; (with_reducible refine (num_Get.calls k s0_0 s0_1 1 t213 t214 _ A2.out).mono ?_); rintro e w' ⟨rfl, ⟨nd, rfl⟩⟩; (try first | exact ⟨rfl, _, World.drewN_drewN _ _ _⟩ | exact ⟨rfl, _, Eq.trans (World.drewN_drewN _ _ _) (congrArg (World.drewN _) (Nat.add_assoc _ _ _))⟩))))
  go_ret
  exact ⟨by first | rfl | (simp [errW_none, errW_some] <;> rfl) | (simp [*, errW_none, errW_some] <;> rfl), by repeat (first | (with_reducible first | exact HI0.out | apply IsB.alloc | apply IsB.drewN | apply IsB.drew | apply IsB.set_0 | apply IsB.set_1 | apply IsB.set_2) | exact HI0.out), by repeat (first | (with_reducible first | exact HB.out | apply below_alloc | apply pw_below_drewN | apply below_drew1 | refine below_set ?_ (IsB.ge HI0.out)) | exact HB.out), by repeat (first | (with_reducible first | exact HK.out | apply KeepBut.set_ | apply keep_drewN | apply keep_drew | apply keep_alloc) | exact HK.out)⟩
 ·
  rw [if_neg c3] at H
  have c3b0 : (t214 == 0) = false := beq_eq_false_iff_ne.mpr c3
  have c3b1 : (t214 != 0) = true := bne_iff_ne.mpr c3
  simp only [Option.some.injEq, Prod.mk.injEq] at H
  obtain ⟨rfl, rfl, rfl, rfl⟩ := H
  obtain ⟨HGz5, hgz5⟩ := HI0.out
  have z5_0 := cellB_0 HGz5
  have z5_1 := cellB_1 HGz5
  have z5_2 := cellB_2 HGz5
  have j5_0 := blk_frozen HGz5 0
  have j5_1 := blk_frozen HGz5 1
  have j5_2 := blk_frozen HGz5 2
  clear HGz5 hgz5
  go_enter Try.func77, Try.ntmps77
  go_wp2_with (first | (go_at_call 76; (with_reducible refine (num_Get.calls k s0_0 s0_1 1 t213 t214 _ A2.out).mono ?_); rintro e w' ⟨rfl, ⟨nd, rfl⟩⟩; (try first | exact ⟨rfl, _, World.drewN_drewN _ _ _⟩ | exact ⟨rfl, _, Eq.trans (World.drewN_drewN _ _ _) (congrArg (World.drewN _) (Nat.add_assoc _ _ _))⟩)))
  repeat (go_quiet (first | (go_at_call 76; (with_reducible refine (num_Get.calls k s0_0 s0_1 1 t213 t214 _ A2.out).mono ?_); rintro e w' ⟨rfl, ⟨nd, rfl⟩⟩; (try first | exact ⟨rfl, _, World.drewN_drewN _ _ _⟩ | exact ⟨rfl, _, Eq.trans (World.drewN_drewN _ _ _) (congrArg (World.drewN _) (Nat.add_assoc _ _ _))⟩))); try go_wp2_with (first | (go_at_call 76; (with_reducible refine (num_Get.calls k s0_0 s0_1 1 t213 t214 _ A2.out).mono ?_); rintro e w' ⟨rfl, ⟨nd, rfl⟩⟩; (try first | exact ⟨rfl, _, World.drewN_drewN _ _ _⟩ | exact ⟨rfl, _, Eq.trans (World.drewN_drewN _ _ _) (congrArg (World.drewN _) (Nat.add_assoc _ _ _))⟩))))
  go_ret
  exact ⟨by first | rfl | (simp [errW_none, errW_some] <;> rfl) | (simp [*, errW_none, errW_some] <;> rfl), by repeat (first | (with_reducible first | exact HI0.out | apply IsB.alloc | apply IsB.drewN | apply IsB.drew | apply IsB.set_0 | apply IsB.set_1 | apply IsB.set_2) | exact HI0.out), by repeat (first | (with_reducible first | exact HB.out | apply below_alloc | apply pw_below_drewN | apply below_drew1 | refine below_set ?_ (IsB.ge HI0.out)) | exact HB.out), by repeat (first | (with_reducible first | exact HK.out | apply KeepBut.set_ | apply keep_drewN | apply keep_drew | apply keep_alloc) | exact HK.out)⟩
end Go.Proofs.Ytbfnkdgjcpcmbaa.X
