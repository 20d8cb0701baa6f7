import Derived.Maps.AppendAt
import Derived.Test.YtbfnkdgjcpcmbaaYWireWrites20
namespace Go.Proofs.Ytbfnkdgjcpcmbaa.X
open Go.RowKit Go.Proofs.YtbfnkdgjcpcmbaaW.PrintWords Go.Proofs.YtbfnkdgjcpcmbaaW.PrintLast Go.Proofs.YtbfnkdgjcpcmbaaW.PrintMore
attribute [local go_sem] max2_int min2_int max_two min_two max_three min_three max_four min_four   -- for this text's walks alone
set_option linter.unusedVariables false
set_option linter.unusedSimpArgs false
open Go
set_option maxHeartbeats 4000000
set_option maxRecDepth 100000
def wire_packetWriter_vector.vb (ex : Int) (vec : ByteArray) : List Int := if ex = 0 then [] else [ex % 256] ++ wire_writer_digits.pk vec ((vec.size + 3) / 4)
theorem wire_packetWriter_vector.calls (w0 : World) {W : World} {g : Nat} {L : List Int} (a0 : ByteArray) (a1 : Int) (a2 : ByteArray) (a3 a4 : Int) (a5 : ByteArray) (hI : IsW w0 W g L) (hl : L.length ≤ 10000) (hok : a1 = 0 ∨ wire_writer_digits.ok a2) :
    Calls Try.prog 49 #[.pointer (some ⟨g, 0, none⟩), .agg #[.string a0, .int .i64 a1, .string a2, .int .i64 a3, .int .i64 a4, .string a5]] W fun e W' => (∃ u, e = .returned u) ∧ IsW w0 W' g (L ++ wire_packetWriter_vector.vb a1 a2) ∧ KeepT W W' g := by
  have hu26 := Try.underlying26
  have hne : W.heap.size ≠ g := by
    obtain ⟨v, h1, _⟩ := hI
    have := (Array.getElem?_eq_some_iff.1 h1).1
    omega
  have HI := Sd.mk hI
  clear hI
  have hp1 : (W.alloc (.cells #[.string a0, .int .i64 a1, .string a2, .int .i64 a3, .int .i64 a4, .string a5] 26)).cell? ⟨W.heap.size, 1, none⟩ = some (.int .i64 a1) := (blk_cell (blk_new W _) 1).trans rfl
  have hp2 : (W.alloc (.cells #[.string a0, .int .i64 a1, .string a2, .int .i64 a3, .int .i64 a4, .string a5] 26)).cell? ⟨W.heap.size, 2, none⟩ = some (.string a2) := (blk_cell (blk_new W _) 2).trans rfl
  by_cases h0 : a1 = 0
  · have t1 : (a1 == 0) = true := beq_iff_eq.mpr h0
    have H0 := Sd.mk h0
    clear hok h0
    go_enter Try.func49, Try.ntmps49
    go_wp2
    refine bodyPost_ret (results_none rfl _ _ _) rfl ?_
    refine ⟨⟨_, rfl⟩, ?_, KeepT.below (below_alloc (Below.refl _ _) _) g⟩
    have := HI.out.alloc (.cells #[.string a0, .int .i64 a1, .string a2, .int .i64 a3, .int .i64 a4, .string a5] 26)
    simpa [wire_packetWriter_vector.vb, H0.out] using this
  · have t1 : (a1 == 0) = false := beq_eq_false_iff_ne.mpr h0
    have HOK := Sd.mk (hok.resolve_left h0)
    have H0 := Sd.mk h0
    clear hok h0
    go_enter Try.func49, Try.ntmps49
    go_wp2
    refine start_ (n := 6) (S := fun w' => w'.cell? ⟨W.heap.size, 1, none⟩ = some (.int .i64 a1) ∧ w'.cell? ⟨W.heap.size, 2, none⟩ = some (.string a2)) (ds := []) #[false,false,false,false,false,false] (by kernel_rfl) rfl rfl ⟨hp1, hp2⟩ (fun hHeld => ?_)
    refine pure_ (i := 0) (N := some 7) (v := ?_) (a' := ?_) #[true,false,false,false,false,false] rfl rfl (by kernel_rfl) (fun _ _ _ h => h) (Or.inl ⟨by rfl, ?_⟩) ?_ ?_
    rotate_left
    · intro w'
      go_simp
      with_reducible rfl
    rotate_left
    · simp only [Act.put, List.setIfInBounds_toArray, List.set_cons_zero, List.set_cons_succ, i64_w, i32_w]
      rfl
    refine pure_ (i := 1) (N := some 8) (v := ?_) (a' := ?_) #[true,true,false,false,false,false] rfl rfl (by kernel_rfl) (fun _ _ _ h => h) (Or.inl ⟨by rfl, ?_⟩) ?_ ?_
    rotate_left
    · intro w'
      go_simp
      with_reducible rfl
    rotate_left
    · simp only [Act.put, List.setIfInBounds_toArray, List.set_cons_zero, List.set_cons_succ, i64_w, i32_w]
      rfl
    refine pure_ (i := 2) (N := some 9) (v := ?_) (a' := ?_) #[true,true,true,false,false,false] rfl rfl (by kernel_rfl) (fun _ _ _ h => h) (Or.inl ⟨by rfl, ?_⟩) ?_ ?_
    rotate_left
    · intro w'
      go_simp
      with_reducible rfl
    rotate_left
    · simp only [Act.put, List.setIfInBounds_toArray, List.set_cons_zero, List.set_cons_succ, i64_w, i32_w]
      rfl
    refine pure_ (i := 3) (N := some 10) (v := ?_) (a' := ?_) #[true,true,true,true,false,false] rfl rfl (by kernel_rfl) (fun _ _ _ h => h) (Or.inl ⟨by rfl, ?_⟩) ?_ ?_
    rotate_left
    · intro w'
      go_simp
      with_reducible rfl
    rotate_left
    · simp only [Act.put, List.setIfInBounds_toArray, List.set_cons_zero, List.set_cons_succ, i64_w, i32_w]
      rfl
    refine take_ (i := 4) (N := some 11) (v := ?_) (a' := ?_) #[true,true,true,true,true,false] rfl rfl (by kernel_rfl) (fun _ _ _ h => h) (Or.inl ⟨by rfl, ?_⟩) hHeld ?_ ?_
    rotate_left
    · rintro w' ⟨s0, s1⟩
      go_simp
      with_reducible rfl
    rotate_left
    · simp only [Act.put, List.setIfInBounds_toArray, List.set_cons_zero, List.set_cons_succ, i64_w, i32_w]
      rfl
    refine one_ (i := 5) (N := some 12) #[true,true,true,true,true,true] rfl rfl (by kernel_rfl) (by decide) (fun K hK => ?_)
    refine goes_ Try.func46 (by kernel_rfl) rfl #[.pointer (some ⟨g, 0, none⟩), .int .i64 a1] (by rfl) rfl rfl (by simp only [List.map_toArray, List.map_cons, List.map_nil]; rfl) ?_
    with_reducible refine (wire_writer_byte.calls w0 (W := (W.alloc (.cells #[.string a0, .int .i64 a1, .string a2, .int .i64 a3, .int .i64 a4, .string a5] 26)).drew) a1 (HI.out.alloc _).drew (by omega)).mono ?_
    rintro e w3 ⟨⟨u3, rfl⟩, hI3, hK3⟩
    refine ⟨_, rfl, ?_⟩
    have HI3 := Sd.mk hI3
    have HK3 := Sd.mk hK3
    have KP3 := Sd.mk (hK3 _ _ _ _ (blk_new W _) (by decide) hne)
    clear hI3 hK3
    refine hK.out _ _ ⟨(blk_cell KP3.out 1).trans rfl, (blk_cell KP3.out 2).trans rfl⟩ (fun hHeld => ?_)
    clear hK K
    refine norm_ (a' := ?_) ?_ ?_
    rotate_left
    · show Act.put _ (some 12) _ = _
      simp only [Act.put, List.setIfInBounds_toArray, List.set_cons_zero, List.set_cons_succ, i64_w, i32_w]
      rfl
    refine done_ (by kernel_rfl) ?_
    have hq2 : w3.cell? ⟨W.heap.size, 2, none⟩ = some (.string a2) := (blk_cell KP3.out 2).trans rfl
    go_wp2
    refine start_ (n := 6) (S := fun w' => w'.cell? ⟨W.heap.size, 2, none⟩ = some (.string a2)) (ds := []) #[false,false,false,false,false,false] (by kernel_rfl) rfl rfl (hq2) (fun hHeld => ?_)
    refine pure_ (i := 0) (N := some 13) (v := ?_) (a' := ?_) #[true,false,false,false,false,false] rfl rfl (by kernel_rfl) (fun _ _ _ h => h) (Or.inl ⟨by rfl, ?_⟩) ?_ ?_
    rotate_left
    · intro w'
      go_simp
      with_reducible rfl
    rotate_left
    · simp only [Act.put, List.setIfInBounds_toArray, List.set_cons_zero, List.set_cons_succ, i64_w, i32_w]
      rfl
    refine pure_ (i := 1) (N := some 14) (v := ?_) (a' := ?_) #[true,true,false,false,false,false] rfl rfl (by kernel_rfl) (fun _ _ _ h => h) (Or.inl ⟨by rfl, ?_⟩) ?_ ?_
    rotate_left
    · intro w'
      go_simp
      with_reducible rfl
    rotate_left
    · simp only [Act.put, List.setIfInBounds_toArray, List.set_cons_zero, List.set_cons_succ, i64_w, i32_w]
      rfl
    refine pure_ (i := 2) (N := some 15) (v := ?_) (a' := ?_) #[true,true,true,false,false,false] rfl rfl (by kernel_rfl) (fun _ _ _ h => h) (Or.inl ⟨by rfl, ?_⟩) ?_ ?_
    rotate_left
    · intro w'
      go_simp
      with_reducible rfl
    rotate_left
    · simp only [Act.put, List.setIfInBounds_toArray, List.set_cons_zero, List.set_cons_succ, i64_w, i32_w]
      rfl
    refine pure_ (i := 3) (N := some 16) (v := ?_) (a' := ?_) #[true,true,true,true,false,false] rfl rfl (by kernel_rfl) (fun _ _ _ h => h) (Or.inl ⟨by rfl, ?_⟩) ?_ ?_
    rotate_left
    · intro w'
      go_simp
      with_reducible rfl
    rotate_left
    · simp only [Act.put, List.setIfInBounds_toArray, List.set_cons_zero, List.set_cons_succ, i64_w, i32_w]
      rfl
    refine take_ (i := 4) (N := some 17) (v := ?_) (a' := ?_) #[true,true,true,true,true,false] rfl rfl (by kernel_rfl) (fun _ _ _ h => h) (Or.inl ⟨by rfl, ?_⟩) hHeld ?_ ?_
    rotate_left
    · intro w' s0
      go_simp
      with_reducible rfl
    rotate_left
    · simp only [Act.put, List.setIfInBounds_toArray, List.set_cons_zero, List.set_cons_succ, i64_w, i32_w]
      rfl
    refine one_ (i := 5) (N := some 18) #[true,true,true,true,true,true] rfl rfl (by kernel_rfl) (by decide) (fun K hK => ?_)
    refine goes_ Try.func48 (by kernel_rfl) rfl #[.pointer (some ⟨g, 0, none⟩), .string a2] (by rfl) rfl rfl (by simp only [List.map_toArray, List.map_cons, List.map_nil]; rfl) ?_
    with_reducible refine (wire_writer_digits.calls w0 (W := w3.drew) a2 HI3.out.drew (by simp only [List.length_append, List.length_cons, List.length_nil]; omega) HOK.out).mono ?_
    rintro e w4 ⟨⟨u4, rfl⟩, hI4, hK4⟩
    refine ⟨_, rfl, ?_⟩
    have HI4 := Sd.mk hI4
    have HK4 := Sd.mk hK4
    have KP4 := Sd.mk (hK4 _ _ _ _ KP3.out (by decide) hne)
    clear hI4 hK4
    refine hK.out _ _ ((blk_cell KP4.out 2).trans rfl) (fun hHeld => ?_)
    clear hK K
    refine norm_ (a' := ?_) ?_ ?_
    rotate_left
    · show Act.put _ (some 18) _ = _
      simp only [Act.put, List.setIfInBounds_toArray, List.set_cons_zero, List.set_cons_succ, i64_w, i32_w]
      rfl
    refine done_ (by kernel_rfl) ?_
    go_end0
    refine ⟨⟨_, rfl⟩, ?_, ((KeepT.below (below_alloc (Below.refl _ W) _) g).trans (HK3.out)).trans (HK4.out)⟩
    have h9 := HI4.out
    rw [List.append_assoc] at h9
    unfold wire_packetWriter_vector.vb
    rw [if_neg H0.out]
    exact h9
end Go.Proofs.Ytbfnkdgjcpcmbaa.X
