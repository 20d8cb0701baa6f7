import Derived.Maps.AppendAt
import Derived.Lib.AppendStr
import Derived.Test.YtbfnkdgjcpcmbaaYWireWrites18
namespace Go.Proofs.Ytbfnkdgjcpcmbaa.X
open Go.RowKit Go.Proofs.YtbfnkdgjcpcmbaaW.PrintWords Go.Proofs.YtbfnkdgjcpcmbaaW.PrintLast Go.Proofs.YtbfnkdgjcpcmbaaW.PrintMore
attribute [local go_sem] max2_int min2_int max_two min_two max_three min_three max_four min_four   -- for this text's walks alone
set_option linter.unusedVariables false
set_option linter.unusedSimpArgs false
open Go
set_option maxHeartbeats 4000000
set_option maxRecDepth 100000
theorem wire_packetWriter_message.step_append_str {P : Program} {ops : Array Oper} {o : Oper} {a : Act} {Q : Exit → Act → World → Prop} {K : Act → World → Prop} {w0 W : World} (base : Nat) (hw : Region.wanted o (yielded ops a.tmps) = true) (s x : Operand) (t u e : TypeId)
    (ho : o.op = .call { callee := .builtin .append, args := #[s, x], argTypes := #[t, u] })
    (ht : P.underlying t = some (.slice e)) (hu : P.underlying u = some .string) (hinfo : (P.info? e).map (fun i => (i.zero, i.size, i.bytes)) = some (some (.int .u8 0), 1, 1))
    (v : Value) (xs : List Int) (y : ByteArray) (hs : a.eval s = v) (hx : a.eval x = .string y)
    (HO : (Kd.int .u8).R e W base (fun _ => True) v xs) (HB : Below base w0 W) (hbase : base ≤ W.heap.size) (hl : xs.length + y.size ≤ 140737488355328)
    (h : ∀ v1 w1, (Kd.int .u8).R e w1 base (fun _ => True) v1 (xs ++ bytesOf y) → Below base w0 w1 → W.grownBy w1 v.ownBlock → K (a.put o.dst v1) w1) :
    if Region.wanted o (yielded ops a.tmps) = true then Oper.wp P o a W K Q else K (a.put o.dst undef) W := by
  obtain ⟨i0, hi, hzz⟩ := Option.map_eq_some_iff.1 hinfo
  simp only [Prod.mk.injEq] at hzz
  obtain ⟨hz0, hz1, hz2⟩ := hzz
  rw [if_pos hw]
  have HO' := Kd.own_of_R HO
  obtain ⟨v1, w1, hr, hown, hg, _⟩ := Lib.run_append_own_string (P := P) (w := W) base t u o.type e i0 ht hu hi hz0 hz1 hz2 v xs.length (encs (Value.int .u8) xs) HO' y (by simp only [maxLen]; omega) hl hbase
  unfold Oper.wp execOp
  simp only [ho, resolve, invoke, builtin, Sem.run_bind, Sem.run_pure, Result.andThen_ok, List.map_toArray, List.map_cons, List.map_nil, hs, hx, hr]
  refine h v1 w1 (Kd.R_of_own ?_ (fun _ _ => trivial)) (HB.grown hg hbase (own_base HO')) hg
  have hl2 : (xs ++ bytesOf y).length = xs.length + y.size := by rw [List.length_append, bytesOf_length]
  have hc : encs (Value.int .u8) (xs ++ bytesOf y) = encs (Value.int .u8) xs ++ Lib.strCells y := by
    simp [encs, bytesOf, Lib.strCells]
  rw [hl2, hc]
  exact hown
def wire_packetWriter_message.mb (slot cyc : Int) (tx : ByteArray) : List Int := if slot = 0 then [] else [slot % 256, cyc % 256, (tx.size : Int) % 256] ++ bytesOf tx
def wire_packetWriter_message.three (slot cyc : Int) (tx : ByteArray) : List Int := [slot % 256, cyc % 256, (tx.size : Int) % 256]
theorem wire_packetWriter_message.calls (w0 : World) {W : World} {g : Nat} {L : List Int} (a0 : ByteArray) (a1 : Int) (a2 : ByteArray) (a3 a4 : Int) (a5 : ByteArray) (hI : IsW w0 W g L) (hl : L.length ≤ 10000) (ht : a5.size ≤ 10000) :
    Calls Try.prog 50 #[.pointer (some ⟨g, 0, none⟩), .agg #[.string a0, .int .i64 a1, .string a2, .int .i64 a3, .int .i64 a4, .string a5]] W fun e W' => (∃ u, e = .returned u) ∧ IsW w0 W' g (L ++ wire_packetWriter_message.mb a3 a4 a5) ∧ KeepT W W' g := by
  have hu26 := Try.underlying26
  have hglt : g < W.heap.size := by
    obtain ⟨v, h1, _⟩ := hI
    exact (Array.getElem?_eq_some_iff.1 h1).1
  have hne : W.heap.size ≠ g := by omega
  have hne2 : W.heap.size + 1 ≠ g := by omega
  have hg0 : w0.heap.size ≤ g := by
    obtain ⟨v, _, h2, _⟩ := hI
    exact h2
  have HI := Sd.mk hI
  clear hI
  have hp3 : (W.alloc (.cells #[.string a0, .int .i64 a1, .string a2, .int .i64 a3, .int .i64 a4, .string a5] 26)).cell? ⟨W.heap.size, 3, none⟩ = some (.int .i64 a3) := (blk_cell (blk_new W _) 3).trans rfl
  have hp4 : (W.alloc (.cells #[.string a0, .int .i64 a1, .string a2, .int .i64 a3, .int .i64 a4, .string a5] 26)).cell? ⟨W.heap.size, 4, none⟩ = some (.int .i64 a4) := (blk_cell (blk_new W _) 4).trans rfl
  have hp5 : (W.alloc (.cells #[.string a0, .int .i64 a1, .string a2, .int .i64 a3, .int .i64 a4, .string a5] 26)).cell? ⟨W.heap.size, 5, none⟩ = some (.string a5) := (blk_cell (blk_new W _) 5).trans rfl
  by_cases h0 : a3 = 0
  · have t1 : (a3 == 0) = true := beq_iff_eq.mpr h0
    have H0 := Sd.mk h0
    clear h0
    go_enter Try.func50, Try.ntmps50
    go_wp2
    refine bodyPost_ret (results_none rfl _ _ _) rfl ?_
    refine ⟨⟨_, rfl⟩, ?_, KeepT.below (below_alloc (Below.refl _ _) _) g⟩
    have := HI.out.alloc (.cells #[.string a0, .int .i64 a1, .string a2, .int .i64 a3, .int .i64 a4, .string a5] 26)
    simpa [wire_packetWriter_message.mb, H0.out] using this
  · have t1 : (a3 == 0) = false := beq_eq_false_iff_ne.mpr h0
    have H0 := Sd.mk h0
    clear h0
    go_enter Try.func50, Try.ntmps50
    go_wp2
    have HB2 : Sd (Below W.heap.size W ((W.alloc (.cells #[.string a0, .int .i64 a1, .string a2, .int .i64 a3, .int .i64 a4, .string a5] 26)).alloc (.cells #[.int .i64 a3, .int .i64 a4, .int .i64 (a5.size : Int)] 3))) := ⟨below_alloc (below_alloc (Below.refl _ W) _) _⟩
    have KP2 := Sd.mk (blk_alloc (blk_new W (.cells #[.string a0, .int .i64 a1, .string a2, .int .i64 a3, .int .i64 a4, .string a5] 26)) (.cells #[.int .i64 a3, .int .i64 a4, .int .i64 (a5.size : Int)] 3))
    have KS2 : Sd (((W.alloc (.cells #[.string a0, .int .i64 a1, .string a2, .int .i64 a3, .int .i64 a4, .string a5] 26)).alloc (.cells #[.int .i64 a3, .int .i64 a4, .int .i64 (a5.size : Int)] 3)).heap[W.heap.size + 1]? = some (.cells #[.int .i64 a3, .int .i64 a4, .int .i64 (a5.size : Int)] 3 (0, 0))) := ⟨by have h9 := blk_new (W.alloc (.cells #[.string a0, .int .i64 a1, .string a2, .int .i64 a3, .int .i64 a4, .string a5] 26)) (.cells #[.int .i64 a3, .int .i64 a4, .int .i64 (a5.size : Int)] 3); rwa [World.size_alloc] at h9⟩
    clear hp3 hp4 hp5
    go_loopw [18] (fun i wr => ∃ j : Nat, j ≤ 3 ∧ i = .int .i64 (j : Int) ∧ IsW w0 wr g (L ++ (wire_packetWriter_message.three a3 a4 a5).take j) ∧ KeepT ((W.alloc (.cells #[.string a0, .int .i64 a1, .string a2, .int .i64 a3, .int .i64 a4, .string a5] 26)).alloc (.cells #[.int .i64 a3, .int .i64 a4, .int .i64 (a5.size : Int)] 3)) wr g) (fun i _ => 3 - (intOf i).toNat)
    case atStart => exact ⟨0, Nat.zero_le _, rfl, by simpa using (HI.out.alloc _).alloc _, KeepT.refl _ _⟩
    case round =>
      obtain ⟨j, hj, rfl, hIr, hKr⟩ := hrel
      have HIR := Sd.mk hIr
      have HKR := Sd.mk hKr
      have KSR := Sd.mk (hKr _ _ _ _ KS2.out (by decide) hne2)
      have hs0 : wr.cell? ⟨W.heap.size + 1, 0, none⟩ = some (.int .i64 a3) := (blk_cell KSR.out 0).trans rfl
      have hs1 : wr.cell? ⟨W.heap.size + 1, 1, none⟩ = some (.int .i64 a4) := (blk_cell KSR.out 1).trans rfl
      have hs2 : wr.cell? ⟨W.heap.size + 1, 2, none⟩ = some (.int .i64 (a5.size : Int)) := (blk_cell KSR.out 2).trans rfl
      clear hIr hKr
      have hcase : j = 0 ∨ j = 1 ∨ j = 2 ∨ j = 3 := by omega
      have hlen : (L ++ (wire_packetWriter_message.three a3 a4 a5).take j).length ≤ 1000000 := by
        rw [List.length_append, List.length_take]
        have : (wire_packetWriter_message.three a3 a4 a5).length = 3 := rfl
        omega
      have HLEN := Sd.mk hlen
      clear hlen
      rcases hcase with rfl | rfl | rfl | rfl
      · have d1 : decide (((0 : Nat) : Int) < 3) = true := by decide
        go_wp2_with (go_at_call 46; (with_reducible refine (wire_writer_byte.calls w0 a3 HIR.out HLEN.out).mono ?_); rintro e' w2 ⟨⟨u, rfl⟩, hI2, hK2⟩; have HI2 := Sd.mk hI2; have HK2 := Sd.mk hK2; clear hI2 hK2)
        go_roundw
        case rel =>
          refine ⟨1, by omega, rfl, ?_, HKR.out.trans HK2.out⟩
          have h9 := HI2.out
          rw [List.append_assoc] at h9
          exact h9
        case measure => decide
      · have d1 : decide (((1 : Nat) : Int) < 3) = true := by decide
        go_wp2_with (go_at_call 46; (with_reducible refine (wire_writer_byte.calls w0 a4 HIR.out HLEN.out).mono ?_); rintro e' w2 ⟨⟨u, rfl⟩, hI2, hK2⟩; have HI2 := Sd.mk hI2; have HK2 := Sd.mk hK2; clear hI2 hK2)
        go_roundw
        case rel =>
          refine ⟨2, by omega, rfl, ?_, HKR.out.trans HK2.out⟩
          have h9 := HI2.out
          rw [List.append_assoc] at h9
          exact h9
        case measure => decide
      · have d1 : decide (((2 : Nat) : Int) < 3) = true := by decide
        go_wp2_with (go_at_call 46; (with_reducible refine (wire_writer_byte.calls w0 (a5.size : Int) HIR.out HLEN.out).mono ?_); rintro e' w2 ⟨⟨u, rfl⟩, hI2, hK2⟩; have HI2 := Sd.mk hI2; have HK2 := Sd.mk hK2; clear hI2 hK2)
        go_roundw
        case rel =>
          refine ⟨3, by omega, rfl, ?_, HKR.out.trans HK2.out⟩
          have h9 := HI2.out
          rw [List.append_assoc] at h9
          exact h9
        case measure => decide
      · have d1 : decide (((3 : Nat) : Int) < 3) = false := by decide
        have hKT : KeepT W wr g := (KeepT.below HB2.out g).trans HKR.out
        have HKT := Sd.mk hKT
        obtain ⟨LM, hLM⟩ : ∃ LM, L ++ (wire_packetWriter_message.three a3 a4 a5).take 3 = LM := ⟨_, rfl⟩
        have hlm : LM.length ≤ 20000 := by
          rw [← hLM, List.length_append, List.length_take]
          have : (wire_packetWriter_message.three a3 a4 a5).length = 3 := rfl
          omega
        rw [hLM] at HIR
        obtain ⟨v3, h1, _, h3, h4⟩ := HIR.out
        obtain ⟨A3, c3, rfl⟩ := Kd.R_slice h3
        have hgc : wr.cell? ⟨g, 0, none⟩ = some (.slice A3 LM.length c3) := (blk_cell h1 0).trans rfl
        have hpc : wr.cell? ⟨W.heap.size, 5, none⟩ = some (.string a5) := (blk_cell (HKR.out _ _ _ _ KP2.out (by decide) hne) 5).trans rfl
        have hl3 : LM.length + a5.size ≤ 140737488355328 := by omega
        have H1 := Sd.mk h1
        have H3 := Sd.mk h3
        have H4 := Sd.mk h4
        have HLM := Sd.mk hLM
        clear hKT h1 h3 h4 hLM hs0 hs1 hs2
        go_wp2
        refine start_ (n := 13) (S := fun w' => w'.cell? ⟨g, 0, none⟩ = some (.slice A3 LM.length c3) ∧ w'.cell? ⟨W.heap.size, 5, none⟩ = some (.string a5)) (ds := [8, 12]) #[false,false,false,false,false,false,false,false,false,false,false,false,false] (by kernel_rfl) rfl rfl ⟨hgc, hpc⟩ (fun hHeld => ?_)
        refine pure_ (i := 0) (N := some 28) (v := ?_) (a' := ?_) #[true,false,false,false,false,false,false,false,false,false,false,false,false] rfl rfl (by kernel_rfl) (fun _ _ _ h => h) (Or.inl ⟨by rfl, ?_⟩) ?_ ?_
        rotate_left
        · intro w'
          go_simp
          with_reducible rfl
        rotate_left
        · simp only [Act.put, List.setIfInBounds_toArray, List.set_cons_zero, List.set_cons_succ, i64_w, i32_w]
          rfl
        refine pure_ (i := 1) (N := some 29) (v := ?_) (a' := ?_) #[true,true,false,false,false,false,false,false,false,false,false,false,false] rfl rfl (by kernel_rfl) (fun _ _ _ h => h) (Or.inl ⟨by rfl, ?_⟩) ?_ ?_
        rotate_left
        · intro w'
          go_simp
          with_reducible rfl
        rotate_left
        · simp only [Act.put, List.setIfInBounds_toArray, List.set_cons_zero, List.set_cons_succ, i64_w, i32_w]
          rfl
        refine pure_ (i := 2) (N := some 30) (v := ?_) (a' := ?_) #[true,true,true,false,false,false,false,false,false,false,false,false,false] rfl rfl (by kernel_rfl) (fun _ _ _ h => h) (Or.inl ⟨by rfl, ?_⟩) ?_ ?_
        rotate_left
        · intro w'
          go_simp
          with_reducible rfl
        rotate_left
        · simp only [Act.put, List.setIfInBounds_toArray, List.set_cons_zero, List.set_cons_succ, i64_w, i32_w]
          rfl
        refine pure_ (i := 3) (N := some 31) (v := ?_) (a' := ?_) #[true,true,true,true,false,false,false,false,false,false,false,false,false] rfl rfl (by kernel_rfl) (fun _ _ _ h => h) (Or.inl ⟨by rfl, ?_⟩) ?_ ?_
        rotate_left
        · intro w'
          go_simp
          with_reducible rfl
        rotate_left
        · simp only [Act.put, List.setIfInBounds_toArray, List.set_cons_zero, List.set_cons_succ, i64_w, i32_w]
          rfl
        refine pure_ (i := 4) (N := some 32) (v := ?_) (a' := ?_) #[true,true,true,true,true,false,false,false,false,false,false,false,false] rfl rfl (by kernel_rfl) (fun _ _ _ h => h) (Or.inl ⟨by rfl, ?_⟩) ?_ ?_
        rotate_left
        · intro w'
          go_simp
          with_reducible rfl
        rotate_left
        · simp only [Act.put, List.setIfInBounds_toArray, List.set_cons_zero, List.set_cons_succ, i64_w, i32_w]
          rfl
        refine pure_ (i := 6) (N := some 34) (v := ?_) (a' := ?_) #[true,true,true,true,true,false,true,false,false,false,false,false,false] rfl rfl (by kernel_rfl) (fun _ _ _ h => h) (Or.inl ⟨by rfl, ?_⟩) ?_ ?_
        rotate_left
        · intro w'
          go_simp
          with_reducible rfl
        rotate_left
        · simp only [Act.put, List.setIfInBounds_toArray, List.set_cons_zero, List.set_cons_succ, i64_w, i32_w]
          rfl
        refine take_ (i := 5) (N := some 33) (v := ?_) (a' := ?_) #[true,true,true,true,true,true,true,false,false,false,false,false,false] rfl rfl (by kernel_rfl) (fun _ _ _ h => h) (Or.inl ⟨by rfl, ?_⟩) hHeld ?_ ?_
        rotate_left
        · rintro w' ⟨s0, s1⟩
          go_simp
          with_reducible rfl
        rotate_left
        · simp only [Act.put, List.setIfInBounds_toArray, List.set_cons_zero, List.set_cons_succ, i64_w, i32_w]
          rfl
        refine take_ (i := 7) (N := some 35) (v := ?_) (a' := ?_) #[true,true,true,true,true,true,true,true,false,false,false,false,false] rfl rfl (by kernel_rfl) (fun _ _ _ h => h) (Or.inl ⟨by rfl, ?_⟩) hHeld ?_ ?_
        rotate_left
        · rintro w' ⟨s0, s1⟩
          go_simp
          with_reducible rfl
        rotate_left
        · simp only [Act.put, List.setIfInBounds_toArray, List.set_cons_zero, List.set_cons_succ, i64_w, i32_w]
          rfl
        refine last_ (i := 8) (N := some 36) #[true,true,true,true,true,true,true,true,true,false,false,false,false] rfl rfl (by kernel_rfl) (by decide) (fun K hK => ?_)
        refine wire_packetWriter_message.step_append_str (w0 := wr.drew) w0.heap.size (by rfl) (.tmp 33) (.tmp 35) 44 9 5 rfl Try.underlying44 Try.underlying9 info5 _ LM a5 rfl rfl (Kd.R_drew H3.out) (Below.refl _ _) H4.out.size hl3 ?_
        intro v1 w4 ho hb4 hg4
        obtain ⟨A1, c1, rfl⟩ := Kd.R_slice ho
        obtain ⟨hc4, hf4, hI4, hK4⟩ := IsW.put (W := wr.drew) H1.out hg0 (Kd.R_drew H3.out) (below_drew H4.out) ho hb4 hg4
        refine hK.out _ _ ?_
        clear hK K
        refine norm_ (a' := ?_) ?_ ?_
        rotate_left
        · show Act.put _ (some 36) _ = _
          simp only [Act.put, List.setIfInBounds_toArray, List.set_cons_zero, List.set_cons_succ, i64_w, i32_w]
          rfl
        refine pure_ (i := 9) (N := some 37) (v := ?_) (a' := ?_) #[true,true,true,true,true,true,true,true,true,true,false,false,false] rfl rfl (by kernel_rfl) (fun _ _ _ h => h) (Or.inl ⟨by rfl, ?_⟩) ?_ ?_
        rotate_left
        · intro w'
          go_simp
          with_reducible rfl
        rotate_left
        · simp only [Act.put, List.setIfInBounds_toArray, List.set_cons_zero, List.set_cons_succ, i64_w, i32_w]
          rfl
        refine pure_ (i := 10) (N := some 38) (v := ?_) (a' := ?_) #[true,true,true,true,true,true,true,true,true,true,true,false,false] rfl rfl (by kernel_rfl) (fun _ _ _ h => h) (Or.inl ⟨by rfl, ?_⟩) ?_ ?_
        rotate_left
        · intro w'
          go_simp
          with_reducible rfl
        rotate_left
        · simp only [Act.put, List.setIfInBounds_toArray, List.set_cons_zero, List.set_cons_succ, i64_w, i32_w]
          rfl
        refine pure_ (i := 11) (N := some 39) (v := ?_) (a' := ?_) #[true,true,true,true,true,true,true,true,true,true,true,true,false] rfl rfl (by kernel_rfl) (fun _ _ _ h => h) (Or.inl ⟨by rfl, ?_⟩) ?_ ?_
        rotate_left
        · intro w'
          go_simp
          with_reducible rfl
        rotate_left
        · simp only [Act.put, List.setIfInBounds_toArray, List.set_cons_zero, List.set_cons_succ, i64_w, i32_w]
          rfl
        refine last_ (i := 12) (N := none) #[true,true,true,true,true,true,true,true,true,true,true,true,true] rfl rfl (by kernel_rfl) (by decide) (fun K hK => ?_)
        refine skip_ (w1 := ?_) (by rfl) rfl ?_ ?_
        rotate_left
        · go_simp
          rfl
        refine hK.out _ _ ?_
        clear hK K
        refine done_ (by kernel_rfl) ?_
        simp only [List.length_append] at hI4 hK4
        go_end0
        refine ⟨⟨_, rfl⟩, ?_, HKT.out.trans (B := wr) hK4⟩
        have e9 : L ++ wire_packetWriter_message.mb a3 a4 a5 = LM ++ bytesOf a5 := by
          unfold wire_packetWriter_message.mb
          rw [if_neg H0.out, ← HLM.out, List.append_assoc]
          rfl
        rw [e9]
        exact hI4
end Go.Proofs.Ytbfnkdgjcpcmbaa.X
