import Derived.Test.YthblnnboeikgcaaYBeatSettles37
import Derived.Test.YthblnnboeikgcaaYBeatSettles11
set_option maxHeartbeats 8000000
set_option maxRecDepth 100000
namespace Go.Proofs.Ythblnnboeikgcaa.B
open Go.RowKit Go.Proofs.YthblnnboeikgcaaW.PrintWords Go.Proofs.YthblnnboeikgcaaW.PrintLast Go.Proofs.YthblnnboeikgcaaW.PrintMore
attribute [local go_sem] max2_int min2_int max_two min_two max_three min_three max_four min_four   -- for this text's walks alone
set_option linter.unusedVariables false
set_option linter.unusedSimpArgs false
theorem beat_alone_tick.calls (k : Nat) (a0_0 a0_1 a0_2 a0_3 a0_4 a0_5 a0_6 a0_7 a0_8 a0_9 : Int) (A0_10 : Option Addr) (c0_10 : Nat) (l0_10 : List Int) (since s' r2 b x : Int) (L : List Int) (w0 : World) {W : World} {B base : Nat} {v : Value} (hr0_10 : Kd.C (Kd.int .i64) w0 A0_10 l0_10.length l0_10) (hc0_10 : l0_10.length ≤ c0_10) (hW : Below w0.heap.size w0 W) (hB0 : w0.heap.size ≤ B)
    (hB : W.heap[B]? = some (.cells #[v, .int .i64 a0_0, .int .i64 a0_1, .int .i64 a0_2, .int .i64 a0_3, .int .i64 a0_4, .int .i64 a0_5, .int .i64 a0_6, .int .i64 a0_7, .int .i64 a0_8, .int .i64 a0_9, .slice A0_10 l0_10.length c0_10, .int .i64 since] 117 (0, 0))) (hQ : Ythblnnboeikgcaa.Queue.Q 3 W base v (x :: L)) (hbs : base ≤ W.heap.size) (hne : v.ownBlock ≠ some B) (hl : L.length ≤ 1000000) (hx : 0 ≤ x ∧ x ≤ 1)
    (hN : beat_Next.f k a0_0 a0_1 a0_2 a0_3 a0_4 a0_5 a0_6 a0_7 a0_8 a0_9 l0_10 since 0 (x == 1) = some (s', r2)) (hbt : beat_Bit.f k a0_0 a0_1 a0_2 a0_3 a0_4 a0_5 a0_6 a0_7 a0_8 a0_9 l0_10 s' = some b) :
    Calls Try.prog 103 #[.pointer (some ⟨B, 0, none⟩)] W fun e W' => e = .returned (.int .u8 (48 + x)) ∧ ∃ v', W'.heap[B]? = some (.cells #[v', .int .i64 a0_0, .int .i64 a0_1, .int .i64 a0_2, .int .i64 a0_3, .int .i64 a0_4, .int .i64 a0_5, .int .i64 a0_6, .int .i64 a0_7, .int .i64 a0_8, .int .i64 a0_9, .slice A0_10 l0_10.length c0_10, .int .i64 s'] 117 (0, 0)) ∧ Ythblnnboeikgcaa.Queue.Q 3 W' base v' (L ++ [b]) ∧ v'.ownBlock ≠ some B ∧ (v'.ownBlock = v.ownBlock ∨ ∃ g, v'.ownBlock = some g ∧ W.heap.size ≤ g) ∧ Ythblnnboeikgcaa.Queue.Keeps W W' B v := by
  have HR := Sd.mk hr0_10
  have HC := Sd.mk hc0_10
  have HW := Sd.mk hW
  have HB := Sd.mk hB
  have HQ := Sd.mk hQ
  have HN := Sd.mk hN
  have HBT := Sd.mk hbt
  have HX := Sd.mk hx
  clear hr0_10 hc0_10 hW hB hQ hN hbt hx
  go_enter Try.func103, Try.ntmps103
  go_wp2_with (go_at_call 133; (with_reducible refine (beat_ends_next.calls HB.out rfl HQ.out).mono ?_); rintro e' w1 ⟨rfl, v1, rfl, hQ1, ho1⟩; have HQ1 := Sd.mk hQ1; have HO1 := Sd.mk ho1; clear hQ1 ho1)
  have K1 : Sd ((W.setCell ⟨B, 0, none⟩ v1).heap[B]? = some (.cells #[v1, .int .i64 a0_0, .int .i64 a0_1, .int .i64 a0_2, .int .i64 a0_3, .int .i64 a0_4, .int .i64 a0_5, .int .i64 a0_6, .int .i64 a0_7, .int .i64 a0_8, .int .i64 a0_9, .slice A0_10 l0_10.length c0_10, .int .i64 since] 117 (0, 0))) := ⟨(Ythblnnboeikgcaa.Queue.setCell_blk HB.out v1).trans rfl⟩
  have HB1 : Sd (Below w0.heap.size w0 (W.setCell ⟨B, 0, none⟩ v1)) := ⟨HW.out.setCell (p := ⟨B, 0, none⟩) hB0 _⟩
  have HQ1' : Sd (Ythblnnboeikgcaa.Queue.Q 3 (W.setCell ⟨B, 0, none⟩ v1) base v1 L) := ⟨HQ1.out.same (fun g hg _ => Ythblnnboeikgcaa.Queue.setCell_far (fun e => by subst e; rw [HO1.out] at hg; exact hne hg) _)⟩
  have KP1 : Sd (Ythblnnboeikgcaa.Queue.Keeps W (W.setCell ⟨B, 0, none⟩ v1) B v) := ⟨(Ythblnnboeikgcaa.Queue.Keeps.refl W B v).set 0 v1⟩
  clear HQ1
  generalize W.setCell ⟨B, 0, none⟩ v1 = w1 at K1 HB1 HQ1' KP1 ⊢
  have p1 : w1.cell? ⟨B, 1, none⟩ = some (.int .i64 a0_0) := (blk_cell K1.out 1).trans rfl
  have p2 : w1.cell? ⟨B, 2, none⟩ = some (.int .i64 a0_1) := (blk_cell K1.out 2).trans rfl
  have p3 : w1.cell? ⟨B, 3, none⟩ = some (.int .i64 a0_2) := (blk_cell K1.out 3).trans rfl
  have p4 : w1.cell? ⟨B, 4, none⟩ = some (.int .i64 a0_3) := (blk_cell K1.out 4).trans rfl
  have p5 : w1.cell? ⟨B, 5, none⟩ = some (.int .i64 a0_4) := (blk_cell K1.out 5).trans rfl
  have p6 : w1.cell? ⟨B, 6, none⟩ = some (.int .i64 a0_5) := (blk_cell K1.out 6).trans rfl
  have p7 : w1.cell? ⟨B, 7, none⟩ = some (.int .i64 a0_6) := (blk_cell K1.out 7).trans rfl
  have p8 : w1.cell? ⟨B, 8, none⟩ = some (.int .i64 a0_7) := (blk_cell K1.out 8).trans rfl
  have p9 : w1.cell? ⟨B, 9, none⟩ = some (.int .i64 a0_8) := (blk_cell K1.out 9).trans rfl
  have p10 : w1.cell? ⟨B, 10, none⟩ = some (.int .i64 a0_9) := (blk_cell K1.out 10).trans rfl
  have p11 : w1.cell? ⟨B, 11, none⟩ = some (.slice A0_10 l0_10.length c0_10) := (blk_cell K1.out 11).trans rfl
  have p12 : w1.cell? ⟨B, 12, none⟩ = some (.int .i64 since) := (blk_cell K1.out 12).trans rfl
  refine start_ (n := 18) (S := fun w' => w'.cell? ⟨B, 1, none⟩ = some (.int .i64 a0_0) ∧ w'.cell? ⟨B, 2, none⟩ = some (.int .i64 a0_1) ∧ w'.cell? ⟨B, 3, none⟩ = some (.int .i64 a0_2) ∧ w'.cell? ⟨B, 4, none⟩ = some (.int .i64 a0_3) ∧ w'.cell? ⟨B, 5, none⟩ = some (.int .i64 a0_4) ∧ w'.cell? ⟨B, 6, none⟩ = some (.int .i64 a0_5) ∧ w'.cell? ⟨B, 7, none⟩ = some (.int .i64 a0_6) ∧ w'.cell? ⟨B, 8, none⟩ = some (.int .i64 a0_7) ∧ w'.cell? ⟨B, 9, none⟩ = some (.int .i64 a0_8) ∧ w'.cell? ⟨B, 10, none⟩ = some (.int .i64 a0_9) ∧ w'.cell? ⟨B, 11, none⟩ = some (.slice A0_10 l0_10.length c0_10) ∧ w'.cell? ⟨B, 12, none⟩ = some (.int .i64 since)) (ds := [17]) #[false,false,false,false,false,false,false,false,false,false,false,false,false,false,false,false,false,false] (by kernel_rfl) rfl rfl ⟨p1, p2, p3, p4, p5, p6, p7, p8, p9, p10, p11, p12⟩ (fun hHeld => ?_)
  refine pure_ (i := 0) (N := some 9) (v := ?_) (a' := ?_) #[true,false,false,false,false,false,false,false,false,false,false,false,false,false,false,false,false,false] rfl rfl (by kernel_rfl) (fun _ _ _ h => h) (Or.inl ⟨by rfl, ?_⟩) ?_ ?_
  rotate_left
  · intro w'
    go_simp
    with_reducible rfl
  rotate_left
  · simp only [Act.put, List.setIfInBounds_toArray, List.set_cons_zero, List.set_cons_succ, i64_w, i32_w]
    rfl
  refine pure_ (i := 1) (N := some 10) (v := ?_) (a' := ?_) #[true,true,false,false,false,false,false,false,false,false,false,false,false,false,false,false,false,false] rfl rfl (by kernel_rfl) (fun _ _ _ h => h) (Or.inl ⟨by rfl, ?_⟩) ?_ ?_
  rotate_left
  · intro w'
    go_simp
    with_reducible rfl
  rotate_left
  · simp only [Act.put, List.setIfInBounds_toArray, List.set_cons_zero, List.set_cons_succ, i64_w, i32_w]
    rfl
  refine pure_ (i := 2) (N := some 11) (v := ?_) (a' := ?_) #[true,true,true,false,false,false,false,false,false,false,false,false,false,false,false,false,false,false] rfl rfl (by kernel_rfl) (fun _ _ _ h => h) (Or.inl ⟨by rfl, ?_⟩) ?_ ?_
  rotate_left
  · intro w'
    go_simp
    with_reducible rfl
  rotate_left
  · simp only [Act.put, List.setIfInBounds_toArray, List.set_cons_zero, List.set_cons_succ, i64_w, i32_w]
    rfl
  refine pure_ (i := 3) (N := some 12) (v := ?_) (a' := ?_) #[true,true,true,true,false,false,false,false,false,false,false,false,false,false,false,false,false,false] rfl rfl (by kernel_rfl) (fun _ _ _ h => h) (Or.inl ⟨by rfl, ?_⟩) ?_ ?_
  rotate_left
  · intro w'
    go_simp
    with_reducible rfl
  rotate_left
  · simp only [Act.put, List.setIfInBounds_toArray, List.set_cons_zero, List.set_cons_succ, i64_w, i32_w]
    rfl
  refine pure_ (i := 5) (N := some 14) (v := ?_) (a' := ?_) #[true,true,true,true,false,true,false,false,false,false,false,false,false,false,false,false,false,false] rfl rfl (by kernel_rfl) (fun _ _ _ h => h) (Or.inl ⟨by rfl, ?_⟩) ?_ ?_
  rotate_left
  · intro w'
    go_simp
    with_reducible rfl
  rotate_left
  · simp only [Act.put, List.setIfInBounds_toArray, List.set_cons_zero, List.set_cons_succ, i64_w, i32_w]
    rfl
  refine pure_ (i := 6) (N := some 15) (v := ?_) (a' := ?_) #[true,true,true,true,false,true,true,false,false,false,false,false,false,false,false,false,false,false] rfl rfl (by kernel_rfl) (fun _ _ _ h => h) (Or.inl ⟨by rfl, ?_⟩) ?_ ?_
  rotate_left
  · intro w'
    go_simp
    with_reducible rfl
  rotate_left
  · simp only [Act.put, List.setIfInBounds_toArray, List.set_cons_zero, List.set_cons_succ, i64_w, i32_w]
    rfl
  refine pure_ (i := 7) (N := some 16) (v := ?_) (a' := ?_) #[true,true,true,true,false,true,true,true,false,false,false,false,false,false,false,false,false,false] rfl rfl (by kernel_rfl) (fun _ _ _ h => h) (Or.inl ⟨by rfl, ?_⟩) ?_ ?_
  rotate_left
  · intro w'
    go_simp
    with_reducible rfl
  rotate_left
  · simp only [Act.put, List.setIfInBounds_toArray, List.set_cons_zero, List.set_cons_succ, i64_w, i32_w]
    rfl
  refine pure_ (i := 9) (N := some 18) (v := ?_) (a' := ?_) #[true,true,true,true,false,true,true,true,false,true,false,false,false,false,false,false,false,false] rfl rfl (by kernel_rfl) (fun _ _ _ h => h) (Or.inl ⟨by rfl, ?_⟩) ?_ ?_
  rotate_left
  · intro w'
    go_simp
    with_reducible rfl
  rotate_left
  · simp only [Act.put, List.setIfInBounds_toArray, List.set_cons_zero, List.set_cons_succ, i64_w, i32_w]
    rfl
  refine pure_ (i := 10) (N := some 19) (v := ?_) (a' := ?_) #[true,true,true,true,false,true,true,true,false,true,true,false,false,false,false,false,false,false] rfl rfl (by kernel_rfl) (fun _ _ _ h => h) (Or.inl ⟨by rfl, ?_⟩) ?_ ?_
  rotate_left
  · intro w'
    go_simp
    with_reducible rfl
  rotate_left
  · simp only [Act.put, List.setIfInBounds_toArray, List.set_cons_zero, List.set_cons_succ, i64_w, i32_w]
    rfl
  refine take_ (i := 4) (N := some 13) (v := ?_) (a' := ?_) #[true,true,true,true,true,true,true,true,false,true,true,false,false,false,false,false,false,false] rfl rfl (by kernel_rfl) (fun _ _ _ h => h) (Or.inl ⟨by rfl, ?_⟩) hHeld ?_ ?_
  rotate_left
  · rintro w' ⟨s0, s1, s2, s3, s4, s5, s6, s7, s8, s9, s10, s11⟩
    go_simp
    with_reducible rfl
  rotate_left
  · simp only [Act.put, List.setIfInBounds_toArray, List.set_cons_zero, List.set_cons_succ, i64_w, i32_w]
    rfl
  refine take_ (i := 8) (N := some 17) (v := ?_) (a' := ?_) #[true,true,true,true,true,true,true,true,true,true,true,false,false,false,false,false,false,false] rfl rfl (by kernel_rfl) (fun _ _ _ h => h) (Or.inl ⟨by rfl, ?_⟩) hHeld ?_ ?_
  rotate_left
  · rintro w' ⟨s0, s1, s2, s3, s4, s5, s6, s7, s8, s9, s10, s11⟩
    go_simp
    with_reducible rfl
  rotate_left
  · simp only [Act.put, List.setIfInBounds_toArray, List.set_cons_zero, List.set_cons_succ, i64_w, i32_w]
    rfl
  refine one_ (i := 11) (N := some 20) #[true,true,true,true,true,true,true,true,true,true,true,true,false,false,false,false,false,false] rfl rfl (by kernel_rfl) (by decide) (fun K hK => ?_)
  refine goes_ Try.func42 (by kernel_rfl) rfl #[.agg #[.int .i64 a0_0, .int .i64 a0_1, .int .i64 a0_2, .int .i64 a0_3, .int .i64 a0_4, .int .i64 a0_5, .int .i64 a0_6, .int .i64 a0_7, .int .i64 a0_8, .int .i64 a0_9, .slice A0_10 l0_10.length c0_10], .int .i64 since, .int .i64 0, .bool (x == 1)] (by rfl) rfl rfl (by simp only [List.map_toArray, List.map_cons, List.map_nil]; rfl) ?_
  with_reducible refine (beat_Next.calls k a0_0 a0_1 a0_2 a0_3 a0_4 a0_5 a0_6 a0_7 a0_8 a0_9 _ _ l0_10 since 0 (x == 1) s' r2 _ (Kd.C_below HR.out (below_drew1 HB1.out)) HC.out HN.out).mono ?_
  rintro e' w2 ⟨rfl, hb⟩
  refine ⟨_, rfl, ?_⟩
  have K2 := Sd.mk (blk_below (blk_drew K1.out) hb)
  have h2 := Sd.mk hb
  have hf12 := blk_frozen K2.out 12
  have hz12 : w2.cell? ⟨B, 12, none⟩ = some (.int .i64 since) := (blk_cell K2.out 12).trans rfl
  refine hK.out _ _ ⟨(blk_cell K2.out 1).trans rfl, (blk_cell K2.out 2).trans rfl, (blk_cell K2.out 3).trans rfl, (blk_cell K2.out 4).trans rfl, (blk_cell K2.out 5).trans rfl, (blk_cell K2.out 6).trans rfl, (blk_cell K2.out 7).trans rfl, (blk_cell K2.out 8).trans rfl, (blk_cell K2.out 9).trans rfl, (blk_cell K2.out 10).trans rfl, (blk_cell K2.out 11).trans rfl, (blk_cell K2.out 12).trans rfl⟩ (fun hHeld => ?_)
  clear hK K
  refine norm_ (a' := ?_) ?_ ?_
  rotate_left
  · show Act.put _ (some 20) _ = _
    simp only [Act.put, List.setIfInBounds_toArray, List.set_cons_zero, List.set_cons_succ, i64_w, i32_w]
    rfl
  refine pure_ (i := 12) (N := some 8) (v := ?_) (a' := ?_) #[true,true,true,true,true,true,true,true,true,true,true,true,true,false,false,false,false,false] rfl rfl (by kernel_rfl) (fun _ _ _ h => h) (Or.inl ⟨by rfl, ?_⟩) ?_ ?_
  rotate_left
  · intro w'
    go_simp
    with_reducible rfl
  rotate_left
  · simp only [Act.put, List.setIfInBounds_toArray, List.set_cons_zero, List.set_cons_succ, i64_w, i32_w]
    rfl
  refine pure_ (i := 13) (N := some 21) (v := ?_) (a' := ?_) #[true,true,true,true,true,true,true,true,true,true,true,true,true,true,false,false,false,false] rfl rfl (by kernel_rfl) (fun _ _ _ h => h) (Or.inl ⟨by rfl, ?_⟩) ?_ ?_
  rotate_left
  · intro w'
    go_simp
    with_reducible rfl
  rotate_left
  · simp only [Act.put, List.setIfInBounds_toArray, List.set_cons_zero, List.set_cons_succ, i64_w, i32_w]
    rfl
  refine pure_ (i := 14) (N := some 22) (v := ?_) (a' := ?_) #[true,true,true,true,true,true,true,true,true,true,true,true,true,true,true,false,false,false] rfl rfl (by kernel_rfl) (fun _ _ _ h => h) (Or.inl ⟨by rfl, ?_⟩) ?_ ?_
  rotate_left
  · intro w'
    go_simp
    with_reducible rfl
  rotate_left
  · simp only [Act.put, List.setIfInBounds_toArray, List.set_cons_zero, List.set_cons_succ, i64_w, i32_w]
    rfl
  refine pure_ (i := 15) (N := some 23) (v := ?_) (a' := ?_) #[true,true,true,true,true,true,true,true,true,true,true,true,true,true,true,true,false,false] rfl rfl (by kernel_rfl) (fun _ _ _ h => h) (Or.inl ⟨by rfl, ?_⟩) ?_ ?_
  rotate_left
  · intro w'
    go_simp
    with_reducible rfl
  rotate_left
  · simp only [Act.put, List.setIfInBounds_toArray, List.set_cons_zero, List.set_cons_succ, i64_w, i32_w]
    rfl
  refine pure_ (i := 16) (N := some 24) (v := ?_) (a' := ?_) #[true,true,true,true,true,true,true,true,true,true,true,true,true,true,true,true,true,false] rfl rfl (by kernel_rfl) (fun _ _ _ h => h) (Or.inl ⟨by rfl, ?_⟩) ?_ ?_
  rotate_left
  · intro w'
    go_simp
    with_reducible rfl
  rotate_left
  · simp only [Act.put, List.setIfInBounds_toArray, List.set_cons_zero, List.set_cons_succ, i64_w, i32_w]
    rfl
  refine last_ (i := 17) (N := none) #[true,true,true,true,true,true,true,true,true,true,true,true,true,true,true,true,true,true] rfl rfl (by kernel_rfl) (by decide) (fun K hK => ?_)
  refine skip_ (w1 := ?_) (by rfl) rfl ?_ ?_
  rotate_left
  · go_simp
    rfl
  refine hK.out _ _ ?_
  clear hK K
  refine done_ (by kernel_rfl) ?_
  have K3 : Sd ((w2.setCell ⟨B, 12, none⟩ (.int .i64 s')).heap[B]? = some (.cells #[v1, .int .i64 a0_0, .int .i64 a0_1, .int .i64 a0_2, .int .i64 a0_3, .int .i64 a0_4, .int .i64 a0_5, .int .i64 a0_6, .int .i64 a0_7, .int .i64 a0_8, .int .i64 a0_9, .slice A0_10 l0_10.length c0_10, .int .i64 s'] 117 (0, 0))) := ⟨(Ythblnnboeikgcaa.Queue.setCell_blk K2.out _).trans rfl⟩
  have HB3 : Sd (Below w0.heap.size w0 (w2.setCell ⟨B, 12, none⟩ (.int .i64 s'))) := ⟨(below_then (below_drew1 HB1.out) (below_drew1 HB1.out).size h2.out).setCell (p := ⟨B, 12, none⟩) hB0 _⟩
  have HO3 : Sd (v1.ownBlock ≠ some B) := ⟨by rw [HO1.out]; exact hne⟩
  have HQ3 : Sd (Ythblnnboeikgcaa.Queue.Q 3 (w2.setCell ⟨B, 12, none⟩ (.int .i64 s')) base v1 L) := ⟨HQ1'.out.same (fun g hg hlt => (Ythblnnboeikgcaa.Queue.setCell_far (fun e => by subst e; exact HO3.out hg) _).trans (h2.out.block g hlt))⟩
  have KP3 : Sd (Ythblnnboeikgcaa.Queue.Keeps W (w2.setCell ⟨B, 12, none⟩ (.int .i64 s')) B v) := ⟨(KP1.out.then ((below_drew1 (Below.refl _ w1)).trans h2.out)).set 12 _⟩
  have HZ3 : Sd (W.heap.size ≤ (w2.setCell ⟨B, 12, none⟩ (.int .i64 s')).heap.size) := ⟨KP3.out.size⟩
  clear p1 p2 p3 p4 p5 p6 p7 p8 p9 p10 p11 p12 K2 h2 hf12 hz12 K1 HB1 HQ1' KP1
  generalize w2.setCell ⟨B, 12, none⟩ (.int .i64 s') = w3 at K3 HB3 HQ3 KP3 HZ3 ⊢
  try go_wp2
  have q1 : w3.cell? ⟨B, 1, none⟩ = some (.int .i64 a0_0) := (blk_cell K3.out 1).trans rfl
  have q2 : w3.cell? ⟨B, 2, none⟩ = some (.int .i64 a0_1) := (blk_cell K3.out 2).trans rfl
  have q3 : w3.cell? ⟨B, 3, none⟩ = some (.int .i64 a0_2) := (blk_cell K3.out 3).trans rfl
  have q4 : w3.cell? ⟨B, 4, none⟩ = some (.int .i64 a0_3) := (blk_cell K3.out 4).trans rfl
  have q5 : w3.cell? ⟨B, 5, none⟩ = some (.int .i64 a0_4) := (blk_cell K3.out 5).trans rfl
  have q6 : w3.cell? ⟨B, 6, none⟩ = some (.int .i64 a0_5) := (blk_cell K3.out 6).trans rfl
  have q7 : w3.cell? ⟨B, 7, none⟩ = some (.int .i64 a0_6) := (blk_cell K3.out 7).trans rfl
  have q8 : w3.cell? ⟨B, 8, none⟩ = some (.int .i64 a0_7) := (blk_cell K3.out 8).trans rfl
  have q9 : w3.cell? ⟨B, 9, none⟩ = some (.int .i64 a0_8) := (blk_cell K3.out 9).trans rfl
  have q10 : w3.cell? ⟨B, 10, none⟩ = some (.int .i64 a0_9) := (blk_cell K3.out 10).trans rfl
  have q11 : w3.cell? ⟨B, 11, none⟩ = some (.slice A0_10 l0_10.length c0_10) := (blk_cell K3.out 11).trans rfl
  have q12 : w3.cell? ⟨B, 12, none⟩ = some (.int .i64 s') := (blk_cell K3.out 12).trans rfl
  refine start_ (n := 13) (S := fun w' => w'.cell? ⟨B, 1, none⟩ = some (.int .i64 a0_0) ∧ w'.cell? ⟨B, 2, none⟩ = some (.int .i64 a0_1) ∧ w'.cell? ⟨B, 3, none⟩ = some (.int .i64 a0_2) ∧ w'.cell? ⟨B, 4, none⟩ = some (.int .i64 a0_3) ∧ w'.cell? ⟨B, 5, none⟩ = some (.int .i64 a0_4) ∧ w'.cell? ⟨B, 6, none⟩ = some (.int .i64 a0_5) ∧ w'.cell? ⟨B, 7, none⟩ = some (.int .i64 a0_6) ∧ w'.cell? ⟨B, 8, none⟩ = some (.int .i64 a0_7) ∧ w'.cell? ⟨B, 9, none⟩ = some (.int .i64 a0_8) ∧ w'.cell? ⟨B, 10, none⟩ = some (.int .i64 a0_9) ∧ w'.cell? ⟨B, 11, none⟩ = some (.slice A0_10 l0_10.length c0_10) ∧ w'.cell? ⟨B, 12, none⟩ = some (.int .i64 s')) (ds := [12]) #[false,false,false,false,false,false,false,false,false,false,false,false,false] (by kernel_rfl) rfl rfl ⟨q1, q2, q3, q4, q5, q6, q7, q8, q9, q10, q11, q12⟩ (fun hHeld => ?_)
  refine pure_ (i := 0) (N := some 25) (v := ?_) (a' := ?_) #[true,false,false,false,false,false,false,false,false,false,false,false,false] rfl rfl (by kernel_rfl) (fun _ _ _ h => h) (Or.inl ⟨by rfl, ?_⟩) ?_ ?_
  rotate_left
  · intro w'
    go_simp
    with_reducible rfl
  rotate_left
  · simp only [Act.put, List.setIfInBounds_toArray, List.set_cons_zero, List.set_cons_succ, i64_w, i32_w]
    rfl
  refine pure_ (i := 1) (N := some 26) (v := ?_) (a' := ?_) #[true,true,false,false,false,false,false,false,false,false,false,false,false] rfl rfl (by kernel_rfl) (fun _ _ _ h => h) (Or.inl ⟨by rfl, ?_⟩) ?_ ?_
  rotate_left
  · intro w'
    go_simp
    with_reducible rfl
  rotate_left
  · simp only [Act.put, List.setIfInBounds_toArray, List.set_cons_zero, List.set_cons_succ, i64_w, i32_w]
    rfl
  refine pure_ (i := 2) (N := some 27) (v := ?_) (a' := ?_) #[true,true,true,false,false,false,false,false,false,false,false,false,false] rfl rfl (by kernel_rfl) (fun _ _ _ h => h) (Or.inl ⟨by rfl, ?_⟩) ?_ ?_
  rotate_left
  · intro w'
    go_simp
    with_reducible rfl
  rotate_left
  · simp only [Act.put, List.setIfInBounds_toArray, List.set_cons_zero, List.set_cons_succ, i64_w, i32_w]
    rfl
  refine pure_ (i := 3) (N := some 28) (v := ?_) (a' := ?_) #[true,true,true,true,false,false,false,false,false,false,false,false,false] rfl rfl (by kernel_rfl) (fun _ _ _ h => h) (Or.inl ⟨by rfl, ?_⟩) ?_ ?_
  rotate_left
  · intro w'
    go_simp
    with_reducible rfl
  rotate_left
  · simp only [Act.put, List.setIfInBounds_toArray, List.set_cons_zero, List.set_cons_succ, i64_w, i32_w]
    rfl
  refine pure_ (i := 4) (N := some 29) (v := ?_) (a' := ?_) #[true,true,true,true,true,false,false,false,false,false,false,false,false] rfl rfl (by kernel_rfl) (fun _ _ _ h => h) (Or.inl ⟨by rfl, ?_⟩) ?_ ?_
  rotate_left
  · intro w'
    go_simp
    with_reducible rfl
  rotate_left
  · simp only [Act.put, List.setIfInBounds_toArray, List.set_cons_zero, List.set_cons_succ, i64_w, i32_w]
    rfl
  refine pure_ (i := 5) (N := some 30) (v := ?_) (a' := ?_) #[true,true,true,true,true,true,false,false,false,false,false,false,false] rfl rfl (by kernel_rfl) (fun _ _ _ h => h) (Or.inl ⟨by rfl, ?_⟩) ?_ ?_
  rotate_left
  · intro w'
    go_simp
    with_reducible rfl
  rotate_left
  · simp only [Act.put, List.setIfInBounds_toArray, List.set_cons_zero, List.set_cons_succ, i64_w, i32_w]
    rfl
  refine pure_ (i := 7) (N := some 32) (v := ?_) (a' := ?_) #[true,true,true,true,true,true,false,true,false,false,false,false,false] rfl rfl (by kernel_rfl) (fun _ _ _ h => h) (Or.inl ⟨by rfl, ?_⟩) ?_ ?_
  rotate_left
  · intro w'
    go_simp
    with_reducible rfl
  rotate_left
  · simp only [Act.put, List.setIfInBounds_toArray, List.set_cons_zero, List.set_cons_succ, i64_w, i32_w]
    rfl
  refine pure_ (i := 8) (N := some 33) (v := ?_) (a' := ?_) #[true,true,true,true,true,true,false,true,true,false,false,false,false] rfl rfl (by kernel_rfl) (fun _ _ _ h => h) (Or.inl ⟨by rfl, ?_⟩) ?_ ?_
  rotate_left
  · intro w'
    go_simp
    with_reducible rfl
  rotate_left
  · simp only [Act.put, List.setIfInBounds_toArray, List.set_cons_zero, List.set_cons_succ, i64_w, i32_w]
    rfl
  refine pure_ (i := 9) (N := some 34) (v := ?_) (a' := ?_) #[true,true,true,true,true,true,false,true,true,true,false,false,false] rfl rfl (by kernel_rfl) (fun _ _ _ h => h) (Or.inl ⟨by rfl, ?_⟩) ?_ ?_
  rotate_left
  · intro w'
    go_simp
    with_reducible rfl
  rotate_left
  · simp only [Act.put, List.setIfInBounds_toArray, List.set_cons_zero, List.set_cons_succ, i64_w, i32_w]
    rfl
  refine take_ (i := 6) (N := some 31) (v := ?_) (a' := ?_) #[true,true,true,true,true,true,true,true,true,true,false,false,false] rfl rfl (by kernel_rfl) (fun _ _ _ h => h) (Or.inl ⟨by rfl, ?_⟩) hHeld ?_ ?_
  rotate_left
  · rintro w' ⟨s0, s1, s2, s3, s4, s5, s6, s7, s8, s9, s10, s11⟩
    go_simp
    with_reducible rfl
  rotate_left
  · simp only [Act.put, List.setIfInBounds_toArray, List.set_cons_zero, List.set_cons_succ, i64_w, i32_w]
    rfl
  refine take_ (i := 10) (N := some 35) (v := ?_) (a' := ?_) #[true,true,true,true,true,true,true,true,true,true,true,false,false] rfl rfl (by kernel_rfl) (fun _ _ _ h => h) (Or.inl ⟨by rfl, ?_⟩) hHeld ?_ ?_
  rotate_left
  · rintro w' ⟨s0, s1, s2, s3, s4, s5, s6, s7, s8, s9, s10, s11⟩
    go_simp
    with_reducible rfl
  rotate_left
  · simp only [Act.put, List.setIfInBounds_toArray, List.set_cons_zero, List.set_cons_succ, i64_w, i32_w]
    rfl
  refine one_ (i := 11) (N := some 36) #[true,true,true,true,true,true,true,true,true,true,true,true,false] rfl rfl (by kernel_rfl) (by decide) (fun K hK => ?_)
  refine goes_ Try.func44 (by kernel_rfl) rfl #[.agg #[.int .i64 a0_0, .int .i64 a0_1, .int .i64 a0_2, .int .i64 a0_3, .int .i64 a0_4, .int .i64 a0_5, .int .i64 a0_6, .int .i64 a0_7, .int .i64 a0_8, .int .i64 a0_9, .slice A0_10 l0_10.length c0_10], .int .i64 s'] (by rfl) rfl rfl (by simp only [List.map_toArray, List.map_cons, List.map_nil]; rfl) ?_
  with_reducible refine (beat_Bit.calls k a0_0 a0_1 a0_2 a0_3 a0_4 a0_5 a0_6 a0_7 a0_8 a0_9 _ _ l0_10 s' b _ (Kd.C_below HR.out (below_drew1 HB3.out)) HC.out HBT.out).mono ?_
  rintro e' w4 ⟨rfl, hb⟩
  refine ⟨_, rfl, ?_⟩
  have K4 := Sd.mk (blk_below (blk_drew K3.out) hb)
  have h4 := Sd.mk hb
  have H4Z : Sd (w3.heap.size ≤ w4.heap.size) := ⟨hb.size⟩
  have HQ4 := Sd.mk (HQ3.out.same (W' := w4) (fun g _ hlt => hb.block g hlt))
  refine hK.out _ _ ⟨(blk_cell K4.out 1).trans rfl, (blk_cell K4.out 2).trans rfl, (blk_cell K4.out 3).trans rfl, (blk_cell K4.out 4).trans rfl, (blk_cell K4.out 5).trans rfl, (blk_cell K4.out 6).trans rfl, (blk_cell K4.out 7).trans rfl, (blk_cell K4.out 8).trans rfl, (blk_cell K4.out 9).trans rfl, (blk_cell K4.out 10).trans rfl, (blk_cell K4.out 11).trans rfl, (blk_cell K4.out 12).trans rfl⟩ (fun hHeld => ?_)
  clear hK K
  refine norm_ (a' := ?_) ?_ ?_
  rotate_left
  · show Act.put _ (some 36) _ = _
    simp only [Act.put, List.setIfInBounds_toArray, List.set_cons_zero, List.set_cons_succ, i64_w, i32_w]
    rfl
  refine last_ (i := 12) (N := some 37) #[true,true,true,true,true,true,true,true,true,true,true,true,true] rfl rfl (by kernel_rfl) (by decide) (fun K hK => ?_)
  refine goes_ Try.func102 (by kernel_rfl) rfl #[.pointer (some ⟨B, 0, none⟩), .int .i64 b] (by rfl) rfl rfl (by simp only [List.map_toArray, List.map_cons, List.map_nil]; rfl) ?_
  with_reducible refine (beat_ends_begin.calls b K4.out rfl HQ4.out hl (Nat.le_trans hbs (Nat.le_trans HZ3.out H4Z.out)) HO3.out).mono ?_
  rintro e' w5 ⟨⟨u5, rfl⟩, v5, hB5, hQ5, ho5, hk5⟩
  refine ⟨_, rfl, ?_⟩
  refine hK.out _ _ ?_
  clear hK K
  refine norm_ (a' := ?_) ?_ ?_
  rotate_left
  · show Act.put _ (some 37) _ = _
    simp only [Act.put, List.setIfInBounds_toArray, List.set_cons_zero, List.set_cons_succ, i64_w, i32_w]
    rfl
  refine done_ (by kernel_rfl) ?_
  have hw1 : wrap64 (48 + x) = 48 + x := by have := HX.out; simp only [wrap64]; omega
  have hw2 : IntKind.u8.wrap (48 + x) = 48 + x := by have := HX.out; simp [IntKind.wrap, IntKind.bits, IntKind.signed]; omega
  have HB5 := Sd.mk hB5
  have HQ5 := Sd.mk hQ5
  have HO5 := Sd.mk ho5
  have HK5 := Sd.mk hk5
  clear hB5 hQ5 ho5 hk5 q1 q2 q3 q4 q5 q6 q7 q8 q9 q10 q11 q12
  go_wp2
  go_ret
  have hB4 := (Array.getElem?_eq_some_iff.1 K4.out).1
  refine ⟨rfl, v5, HB5.out, HQ5.out, ?_, ?_, ?_⟩
  · rcases HO5.out with h | ⟨g, h, hg⟩
    · rw [h]
      exact HO3.out
    · rw [h]
      intro e
      have := Option.some.inj e
      omega
  · rcases HO5.out with h | ⟨g, h, hg⟩
    · exact .inl (h.trans HO1.out)
    · exact .inr ⟨g, h, Nat.le_trans (Nat.le_trans HZ3.out H4Z.out) hg⟩
  · exact (KP3.out.then ((below_drew1 (Below.refl _ w3)).trans h4.out)).trans HK5.out HO1.out
end Go.Proofs.Ythblnnboeikgcaa.B
