import Derived.Test.YtfannnojhkkaiaaYKingPlays24
import Derived.Laws.EntriesVeiled
import Derived.Test.YtfannnojhkkaiaaYKingPlays12
import Derived.Test.YtfannnojhkkaiaaYKingPlays13
import Derived.Test.YtfannnojhkkaiaaYKingPlays15
import Derived.Test.YtfannnojhkkaiaaYKingPlays23
import Derived.Test.YtfannnojhkkaiaaYKingPlays25
import Derived.Test.YtfannnojhkkaiaaYKingPlays26
import Derived.Test.YtfannnojhkkaiaaYKingPlays27
namespace Go.Proofs.Ytfannnojhkkaiaa.X
open Go.RowKit Go.Proofs.YtfannnojhkkaiaaW.PrintWords Go.Proofs.YtfannnojhkkaiaaW.PrintLast Go.Proofs.YtfannnojhkkaiaaW.PrintMore
attribute [local go_sem] max2_int min2_int max_two min_two max_three min_three max_four min_four   -- for this text's walks alone
set_option linter.unusedVariables false
set_option linter.unusedSimpArgs false
theorem king_Play.size_alloc (w : World) (o : Obj) : (w.alloc o).heap.size = w.heap.size + 1 := by simp
def king_Play.After (w2 : World) (n : Int) (s1 s2 : Value) (w' : World) : Prop := ∃ (gB cap gP : Nat), s1 = .slice (some ⟨gB, 0, none⟩) n.toNat cap ∧ s2 = .pointer (some ⟨gP, 0, none⟩) ∧ w2.heap.size ≤ gB ∧ w2.heap.size ≤ gP ∧ Aside0 (Kd.R k52 52 w' w2.heap.size (fun k => k ≠ gP) (.slice (some ⟨gB, 0, none⟩) n.toNat cap) (List.replicate n.toNat z52)) ∧ Aside0 (w'.heap[gP]? = some (.cells #[.int .i64 0, .int .i64 0, .int .i64 0, .int .i64 0, .int .i64 0, .int .i64 0, .int .i64 0, .int .i64 0, .int .i64 0, .int .i64 0, .slice none 0 0, .slice none 0 0, .slice none 0 0, .nilFunc] 84 (0, 0))) ∧ Aside0 (Below w2.heap.size w2 w')
theorem king_Play.close1 {w2 W w8 : World} {n : Int} {v8 : Value} (hn : 0 < n.toNat) (ho : Kd.R k52 52 w8 W.heap.size (fun _ => True) v8 (List.replicate n.toNat z52)) (hs : w2.heap.size ≤ W.heap.size) (hB : Below w2.heap.size w2 (w8.alloc (.cells #[.int .i64 0, .int .i64 0, .int .i64 0, .int .i64 0, .int .i64 0, .int .i64 0, .int .i64 0, .int .i64 0, .int .i64 0, .int .i64 0, .slice none 0 0, .slice none 0 0, .slice none 0 0, .nilFunc] 84))) :
    king_Play.After w2 n v8 (.pointer (some ⟨w8.heap.size, 0, none⟩)) (w8.alloc (.cells #[.int .i64 0, .int .i64 0, .int .i64 0, .int .i64 0, .int .i64 0, .int .i64 0, .int .i64 0, .int .i64 0, .int .i64 0, .int .i64 0, .slice none 0 0, .slice none 0 0, .slice none 0 0, .nilFunc] 84)) := by
  obtain ⟨gB, cap, e, gb, gl, _⟩ := Kd.R_form ho (by rw [List.length_replicate]; exact hn)
  rw [List.length_replicate] at e
  subst e
  exact ⟨gB, cap, w8.heap.size, rfl, rfl, by omega, by omega, ⟨Kd.R_lower (Kd.R_alloc (Kd.R_mono (Kd.R_bound ho) (fun k hk => by have := hk.2.2.1; omega)) _) hs⟩, ⟨blk_new w8 _⟩, ⟨hB⟩⟩
theorem king_Play.close2 {w2 W w8 : World} {n : Int} {v8 : Value} (hn : 0 < n.toNat) (ho : Kd.R k52 52 w8 (W.alloc (.cells #[.int .i64 0, .int .i64 0, .int .i64 0, .int .i64 0, .int .i64 0, .int .i64 0, .int .i64 0, .int .i64 0, .int .i64 0, .int .i64 0, .slice none 0 0, .slice none 0 0, .slice none 0 0, .nilFunc] 84)).heap.size (fun _ => True) v8 (List.replicate n.toNat z52)) (hb : Below (W.alloc (.cells #[.int .i64 0, .int .i64 0, .int .i64 0, .int .i64 0, .int .i64 0, .int .i64 0, .int .i64 0, .int .i64 0, .int .i64 0, .int .i64 0, .slice none 0 0, .slice none 0 0, .slice none 0 0, .nilFunc] 84)).heap.size (W.alloc (.cells #[.int .i64 0, .int .i64 0, .int .i64 0, .int .i64 0, .int .i64 0, .int .i64 0, .int .i64 0, .int .i64 0, .int .i64 0, .int .i64 0, .slice none 0 0, .slice none 0 0, .slice none 0 0, .nilFunc] 84)) w8) (hs : w2.heap.size ≤ W.heap.size) (hB : Below w2.heap.size w2 w8) :
    king_Play.After w2 n v8 (.pointer (some ⟨W.heap.size, 0, none⟩)) w8 := by
  obtain ⟨gB, cap, e, gb, gl, _⟩ := Kd.R_form ho (by rw [List.length_replicate]; exact hn)
  rw [List.length_replicate] at e
  subst e
  rw [king_Play.size_alloc] at gb
  exact ⟨gB, cap, W.heap.size, rfl, rfl, by omega, by omega, ⟨Kd.R_lower (Kd.R_mono (Kd.R_bound ho) (fun k hk => by have := hk.2.1; rw [king_Play.size_alloc] at this; omega)) (by rw [king_Play.size_alloc]; omega)⟩, ⟨blk_below (blk_new W _) hb⟩, ⟨hB⟩⟩
def king_Play.start (b : Int) : S52 := if b = 1 then ⟨1, false⟩ else ⟨0, false⟩
def king_Play.first (n : Int) (bits : List Int) : List S52 := (List.range n.toNat).map (fun (i : Nat) => king_Play.start (rd bits (i : Int)))
theorem king_Play.first_len (n : Int) (bits : List Int) : (king_Play.first n bits).length = n.toNat := by simp [king_Play.first]
theorem king_Play.start_at (b : Int) : king_Start.f b = some ((king_Play.start b).f0, (king_Play.start b).f1) := by
  unfold king_Start.f king_Play.start
  split <;> rfl
theorem king_Play.first_part (n : Int) (bits : List Int) (j : Nat) (h : j ≤ n.toNat) (hq : bits.length ≤ j ∨ j = n.toNat) : KW.part z52 (king_Play.first n bits) n.toNat j = king_Play.first n bits := by
  have hl := KW.part_len (z := z52) (king_Play.first_len n bits) h
  unfold KW.part at hl ⊢
  refine List.ext_getElem (by rw [hl, king_Play.first_len]) (fun i h1 h2 => ?_)
  have hi : i < n.toNat := by rw [king_Play.first_len] at h2; exact h2
  by_cases c : i < j
  · rw [List.getElem_append_left (by rw [List.length_take, king_Play.first_len]; omega), List.getElem_take]
  · rw [List.getElem_append_right (by rw [List.length_take]; omega), List.getElem_replicate]
    simp only [king_Play.first, List.getElem_map, List.getElem_range]
    have : rd bits (i : Int) = 0 := by simp [rd, List.getD_eq_getElem?_getD, show bits.length ≤ i by omega]
    rw [this]
    rfl
def king_Play.run (k : Nat) (c : S24) (F L : List Int) : Nat → Int → List S52 → Option (List S52)
  | 0, _, B => some B
  | q + 1, x, B => (king_play_exchange.f k c F L x B (List.range c.f0.toNat)).bind fun B' => king_Play.run k c F L q (x + 1) B'
theorem king_Play.run_mono (c : S24) (F L : List Int) (k : Nat) : ∀ q x B, LeO (king_Play.run k c F L q x B) (king_Play.run (k + 1) c F L q x B)
  | 0, _, _ => LeO.refl _
  | q + 1, x, B => by
    unfold king_Play.run
    exact LeO.bind (king_play_exchange.mono _ _ _ _ _ _ _) (fun B' => king_Play.run_mono c F L k q (x + 1) B')
def king_Play.f (k : Nat) (a0_0 : Int) (a0_1 : Int) (a0_2 : Int) (a0_3 : Int) (a0_4 : Int) (a0_5 : Int) (a0_6 : Int) (a0_7 : Int) (a0_8 : Int) (a0_9 : Int) (l0_10 : List Int) (l1 : List Int) (l2 : List Int) (l3 : List Int) : Option (List Int) := (conf_Plain.f k a0_0 a0_1 a0_2 a0_3 a0_4 a0_5 a0_6 a0_7 a0_8 a0_9 l0_10).bind fun e => if e = 0 then (if 1 ≤ a0_0 ∧ a0_0 ≤ 13 ∧ l2.length ≤ 20 ∧ 20 < k then (conf_Rounds.f k a0_0 a0_1 a0_2 a0_3 a0_4 a0_5 a0_6 a0_7 a0_8 a0_9 l0_10).bind fun r => if 0 ≤ r ∧ r ≤ 60 ∧ r ≤ 3 * a0_0 then (king_Play.run k (⟨a0_0, a0_1, a0_2, a0_3, a0_4, a0_5, a0_6, a0_7, a0_8, a0_9, l0_10⟩ : S24) l2 l3 r.toNat 0 (king_Play.first a0_0 l1)).bind fun B => some (king_play_ends.ends l2 B) else none else none) else some []
theorem king_Play.mono : ∀ a0 a1 a2 a3 a4 a5 a6 a7 a8 a9 a10 a11 a12 a13 k, LeO (king_Play.f k a0 a1 a2 a3 a4 a5 a6 a7 a8 a9 a10 a11 a12 a13) (king_Play.f (k + 1) a0 a1 a2 a3 a4 a5 a6 a7 a8 a9 a10 a11 a12 a13) := by
  intro a0 a1 a2 a3 a4 a5 a6 a7 a8 a9 a10 a11 a12 a13 k
  unfold king_Play.f
  refine LeO.bind (conf_Plain.mono _ _ _ _ _ _ _ _ _ _ _ _) (fun e => ?_)
  refine LeO.ite ?_ (LeO.refl _)
  intro r h
  by_cases d : 1 ≤ a0 ∧ a0 ≤ 13 ∧ a12.length ≤ 20 ∧ 20 < k
  · rw [if_pos d] at h
    rw [if_pos ⟨d.1, d.2.1, d.2.2.1, by omega⟩]
    exact (LeO.bind (conf_Rounds.mono _ _ _ _ _ _ _ _ _ _ _ _) (fun _ => LeO.ite (LeO.bind (king_Play.run_mono _ _ _ _ _ _ _) (fun _ => LeO.refl _)) (LeO.refl _))) r h
  · rw [if_neg d] at h
    cases h
set_option maxHeartbeats 8000000 in
set_option maxRecDepth 100000 in
theorem king_Play.calls (k : Nat) (a0_0 : Int) (a0_1 : Int) (a0_2 : Int) (a0_3 : Int) (a0_4 : Int) (a0_5 : Int) (a0_6 : Int) (a0_7 : Int) (a0_8 : Int) (a0_9 : Int) (A0_10 : Option Addr) (c0_10 : Nat) (l0_10 : List Int) (A1 : Option Addr) (c1 : Nat) (l1 : List Int) (A2 : Option Addr) (c2 : Nat) (l2 : List Int) (A3 : Option Addr) (c3 : Nat) (l3 : List Int) (r : List Int) (w : World) (hr0_10 : Kd.C (Kd.int .i64) w A0_10 l0_10.length l0_10) (hc0_10 : l0_10.length ≤ c0_10) (hr1 : Kd.C (Kd.int .i64) w A1 l1.length l1) (hc1 : l1.length ≤ c1) (hr2 : Kd.C (Kd.int .i64) w A2 l2.length l2) (hc2 : l2.length ≤ c2) (hr3 : Kd.C (Kd.int .i64) w A3 l3.length l3) (hc3 : l3.length ≤ c3) (h : king_Play.f k a0_0 a0_1 a0_2 a0_3 a0_4 a0_5 a0_6 a0_7 a0_8 a0_9 l0_10 l1 l2 l3 = some r) :
    Calls Try.prog 55 #[.agg #[.int .i64 a0_0, .int .i64 a0_1, .int .i64 a0_2, .int .i64 a0_3, .int .i64 a0_4, .int .i64 a0_5, .int .i64 a0_6, .int .i64 a0_7, .int .i64 a0_8, .int .i64 a0_9, .slice A0_10 l0_10.length c0_10], .slice A1 l1.length c1, .slice A2 l2.length c2, .slice A3 l3.length c3] w fun e w' => ∃ v0_ : Value, e = .returned (v0_) ∧ Kd.R (Kd.int .i64) 3 w' w.heap.size (fun _ => True) v0_ r ∧ Below w.heap.size w w' := by
  have hu24 := Try.underlying24
  have hu52 := Try.underlying52
  have hu84 := Try.underlying84
  have HR := Aside0.mk hr0_10
  have HC := Aside0.mk hc0_10
  have HR1 := Aside0.mk hr1
  have HC1 := Aside0.mk hc1
  have HR2 := Aside0.mk hr2
  have HC2 := Aside0.mk hc2
  have HR3 := Aside0.mk hr3
  have HC3 := Aside0.mk hc3
  clear hr0_10 hc0_10 hr1 hc1 hr2 hc2 hr3 hc3
  unfold king_Play.f at h
  obtain ⟨e, hp, h⟩ := Option.bind_eq_some_iff.mp h
  have HP := Aside0.mk hp
  clear hp
  by_cases d0 : e = 0
  · subst d0
    rw [if_pos rfl] at h
    by_cases d1 : 1 ≤ a0_0 ∧ a0_0 ≤ 13 ∧ l2.length ≤ 20 ∧ 20 < k
    · rw [if_pos d1] at h
      obtain ⟨r_, hrd, h⟩ := Option.bind_eq_some_iff.mp h
      by_cases d2 : 0 ≤ r_ ∧ r_ ≤ 60 ∧ r_ ≤ 3 * a0_0
      · rw [if_pos d2] at h
        obtain ⟨Bf, hrun, h⟩ := Option.bind_eq_some_iff.mp h
        obtain rfl := Option.some.inj h
        have HRD := Aside0.mk hrd
        have HRun := Aside0.mk hrun
        have D1 := Aside0.mk d1
        have D2 := Aside0.mk d2
        have n0 : 0 ≤ a0_0 := by omega
        have np : 0 < a0_0.toNat := by omega
        have n1 : a0_0.toNat * 16 ≤ 281474976710656 := by omega
        clear h hrun hrd d1 d2
        go_enter Try.func55, Try.ntmps55
        go_wp2_with (first | (go_at_call 59; (with_reducible refine (conf_Plain.calls k a0_0 a0_1 a0_2 a0_3 a0_4 a0_5 a0_6 a0_7 a0_8 a0_9 _ _ l0_10 0 _ ?side1 ?side2 HP.out).mono ?_); (case side1 => exact Kd.C_alloc (Kd.C_alloc HR.out _) _); (case side2 => exact HC.out); rintro e' w2 ⟨rfl, hb⟩; have KC := Aside0.mk (blk_below (blk_alloc (blk_new w _) _) hb); have KL := Aside0.mk (blk_below (blk_new (w.alloc (.cells #[.int .i64 a0_0, .int .i64 a0_1, .int .i64 a0_2, .int .i64 a0_3, .int .i64 a0_4, .int .i64 a0_5, .int .i64 a0_6, .int .i64 a0_7, .int .i64 a0_8, .int .i64 a0_9, .slice A0_10 l0_10.length c0_10] 24)) (.cells #[.slice A3 l3.length c3] 22)) hb); have HB2 := Aside0.mk (below_then (below_alloc (below_alloc (Below.refl _ w) _) _) (by simp; omega) hb); have HSZ := Aside0.mk (show w.heap.size + 2 ≤ w2.heap.size by have := hb.size; simp at this; omega); clear hb; simp only [king_Play.size_alloc] at KL; have q0 : w2.cell? ⟨w.heap.size, 0, none⟩ = some (.int .i64 a0_0) := (blk_cell KC.out 0).trans rfl; have q1 : w2.cell? ⟨w.heap.size, 1, none⟩ = some (.int .i64 a0_1) := (blk_cell KC.out 1).trans rfl; have q2 : w2.cell? ⟨w.heap.size, 2, none⟩ = some (.int .i64 a0_2) := (blk_cell KC.out 2).trans rfl; have q3 : w2.cell? ⟨w.heap.size, 3, none⟩ = some (.int .i64 a0_3) := (blk_cell KC.out 3).trans rfl; have q4 : w2.cell? ⟨w.heap.size, 4, none⟩ = some (.int .i64 a0_4) := (blk_cell KC.out 4).trans rfl; have q5 : w2.cell? ⟨w.heap.size, 5, none⟩ = some (.int .i64 a0_5) := (blk_cell KC.out 5).trans rfl; have q6 : w2.cell? ⟨w.heap.size, 6, none⟩ = some (.int .i64 a0_6) := (blk_cell KC.out 6).trans rfl; have q7 : w2.cell? ⟨w.heap.size, 7, none⟩ = some (.int .i64 a0_7) := (blk_cell KC.out 7).trans rfl; have q8 : w2.cell? ⟨w.heap.size, 8, none⟩ = some (.int .i64 a0_8) := (blk_cell KC.out 8).trans rfl; have q9 : w2.cell? ⟨w.heap.size, 9, none⟩ = some (.int .i64 a0_9) := (blk_cell KC.out 9).trans rfl; have q10 : w2.cell? ⟨w.heap.size, 10, none⟩ = some (.slice A0_10 l0_10.length c0_10) := (blk_cell KC.out 10).trans rfl))
        refine start_ (n := 8) (S := fun w' => Aside0 (Below w2.heap.size w2 w') ∧ w'.cell? ⟨w.heap.size, 0, none⟩ = some (.int .i64 a0_0) ∧ w'.cell? ⟨w.heap.size, 1, none⟩ = some (.int .i64 a0_1) ∧ w'.cell? ⟨w.heap.size, 2, none⟩ = some (.int .i64 a0_2) ∧ w'.cell? ⟨w.heap.size, 3, none⟩ = some (.int .i64 a0_3) ∧ w'.cell? ⟨w.heap.size, 4, none⟩ = some (.int .i64 a0_4) ∧ w'.cell? ⟨w.heap.size, 5, none⟩ = some (.int .i64 a0_5) ∧ w'.cell? ⟨w.heap.size, 6, none⟩ = some (.int .i64 a0_6) ∧ w'.cell? ⟨w.heap.size, 7, none⟩ = some (.int .i64 a0_7) ∧ w'.cell? ⟨w.heap.size, 8, none⟩ = some (.int .i64 a0_8) ∧ w'.cell? ⟨w.heap.size, 9, none⟩ = some (.int .i64 a0_9) ∧ w'.cell? ⟨w.heap.size, 10, none⟩ = some (.slice A0_10 l0_10.length c0_10)) (ds := [7]) #[false, false, false, false, false, false, false, false] (by kernel_rfl) rfl rfl ⟨⟨below_drew1 (Below.refl _ _)⟩, q0, q1, q2, q3, q4, q5, q6, q7, q8, q9, q10⟩ (fun hHeld => ?_)
        refine pure_ (i := 1) (N := some 16) (v := ?_) (a' := ?_) #[false, true, false, false, false, false, false, false] rfl rfl (by kernel_rfl) (fun _ _ _ h => h) (Or.inl ⟨by rfl, ?_⟩) ?_ ?_
        rotate_left
        · intro w'
          go_simp
          with_reducible rfl
        rotate_left
        · simp only [Act.put, List.setIfInBounds_toArray, List.set_cons_zero, List.set_cons_succ, i64_w, i32_w]
          rfl
        refine pure_ (i := 4) (N := some 19) (v := ?_) (a' := ?_) #[false, true, false, false, true, false, false, false] rfl rfl (by kernel_rfl) (fun _ _ _ h => h) (Or.inl ⟨by rfl, ?_⟩) ?_ ?_
        rotate_left
        · intro w'
          go_simp
          with_reducible rfl
        rotate_left
        · simp only [Act.put, List.setIfInBounds_toArray, List.set_cons_zero, List.set_cons_succ, i64_w, i32_w]
          rfl
        refine take_ (i := 0) (N := some 15) (v := ?_) (a' := ?_) #[true, true, false, false, true, false, false, false] rfl rfl (by kernel_rfl) (fun _ _ _ h => h) (Or.inl ⟨by rfl, ?_⟩) hHeld ?_ ?_
        rotate_left
        · rintro w' ⟨s0, s1, s2, s3, s4, s5, s6, s7, s8, s9, s10, s11⟩
          go_simp
          with_reducible rfl
        rotate_left
        · simp only [Act.put, List.setIfInBounds_toArray, List.set_cons_zero, List.set_cons_succ, i64_w, i32_w]
          rfl
        refine take_ (i := 2) (N := some 17) (v := ?_) (a' := ?_) #[true, true, true, false, true, false, false, false] rfl rfl (by kernel_rfl) (fun _ _ _ h => h) (Or.inl ⟨by rfl, ?_⟩) hHeld ?_ ?_
        rotate_left
        · rintro w' ⟨s0, s1, s2, s3, s4, s5, s6, s7, s8, s9, s10, s11⟩
          go_simp
          with_reducible rfl
        rotate_left
        · simp only [Act.put, List.setIfInBounds_toArray, List.set_cons_zero, List.set_cons_succ, i64_w, i32_w]
          rfl
        refine join_ (σ := Value × Value) 1 #[true, true, true, true, true, true, true, false] (fun s => [(18, s.1), (20, .agg #[.int .i64 a0_0, .int .i64 a0_1, .int .i64 a0_2, .int .i64 a0_3, .int .i64 a0_4, .int .i64 a0_5, .int .i64 a0_6, .int .i64 a0_7, .int .i64 a0_8, .int .i64 a0_9, .slice A0_10 l0_10.length c0_10, s.1, .slice A2 l2.length c2, .nilFunc]), (9, s.2)]) (fun s w' => king_Play.After w2 a0_0 s.1 s.2 w') ?_ ?_
        rotate_left
        · intro hCont
          refine two_ (i := 3) (j := 6) (Ni := some 18) (Nj := some 9) #[true, true, true, true, true, false, false, false] #[true, true, true, false, true, false, true, false] rfl rfl rfl rfl (by kernel_rfl) (by decide) (by decide) (fun K hK => ?_) (fun K hK => ?_)
          · skip
            have hh3 := hHeld
            refine Kd.R_make_step k52 _ 52 (by rfl) (N := 18) rfl 81 _ _ rfl a0_0 rfl rfl Try.underlying81 (.agg #[(.int .i64 0), (.bool false)]) 16 info52 rfl (by decide) (by omega) z52 (ok := fun _ => True) (okp := fun _ => True) (k52_mkM _ _ _ z52) (fun _ hk => hk) trivial n0 n1 (Below.refl _ _) (Nat.le_refl _) ?_
            intro v8 w8 ho8 hb8 hg8 hnew8
            obtain ⟨gB8, cap8, e8, _⟩ := Kd.R_form ho8 (by rw [List.length_replicate]; exact np)
            rw [List.length_replicate] at e8
            subst e8
            clear hg8 hnew8
            refine hK.out _ _ ⟨⟨below_step hh3.1.out hb8⟩, pw_cell_below hb8 hh3.2.1, pw_cell_below hb8 hh3.2.2.1, pw_cell_below hb8 hh3.2.2.2.1, pw_cell_below hb8 hh3.2.2.2.2.1, pw_cell_below hb8 hh3.2.2.2.2.2.1, pw_cell_below hb8 hh3.2.2.2.2.2.2.1, pw_cell_below hb8 hh3.2.2.2.2.2.2.2.1, pw_cell_below hb8 hh3.2.2.2.2.2.2.2.2.1, pw_cell_below hb8 hh3.2.2.2.2.2.2.2.2.2.1, pw_cell_below hb8 hh3.2.2.2.2.2.2.2.2.2.2.1, pw_cell_below hb8 hh3.2.2.2.2.2.2.2.2.2.2.2⟩ (fun hHeld => ?_)
            clear hK K
            refine norm_ (a' := ?_) ?_ ?_
            rotate_left
            · show Act.put _ (some 18) _ = _
              simp only [Act.put, List.setIfInBounds_toArray, List.set_cons_zero, List.set_cons_succ, i64_w, i32_w]
              rfl
            refine pure_ (i := 5) (N := some 20) (v := ?_) (a' := ?_) #[true, true, true, true, true, true, false, false] rfl rfl (by kernel_rfl) (fun _ _ _ h => h) (Or.inl ⟨by rfl, ?_⟩) ?_ ?_
            rotate_left
            · intro w'
              go_simp
              with_reducible rfl
            rotate_left
            · simp only [Act.put, List.setIfInBounds_toArray, List.set_cons_zero, List.set_cons_succ, i64_w, i32_w]
              rfl
            refine one_ (i := 6) (N := some 9) #[true, true, true, true, true, true, true, false] rfl rfl (by kernel_rfl) (by decide) (fun K hK => ?_)
            have hh6 := hHeld
            refine value_ (w1 := ?_) (v := ?_) (by rfl) rfl ?_ ?_
            rotate_left 2
            · go_simp
              constructor
              · rfl
              · rfl
            refine hK.out _ _ ⟨⟨below_step hh6.1.out (below_alloc (Below.refl _ _) _)⟩, pw_cell_below (below_alloc (Below.refl _ _) _) hh6.2.1, pw_cell_below (below_alloc (Below.refl _ _) _) hh6.2.2.1, pw_cell_below (below_alloc (Below.refl _ _) _) hh6.2.2.2.1, pw_cell_below (below_alloc (Below.refl _ _) _) hh6.2.2.2.2.1, pw_cell_below (below_alloc (Below.refl _ _) _) hh6.2.2.2.2.2.1, pw_cell_below (below_alloc (Below.refl _ _) _) hh6.2.2.2.2.2.2.1, pw_cell_below (below_alloc (Below.refl _ _) _) hh6.2.2.2.2.2.2.2.1, pw_cell_below (below_alloc (Below.refl _ _) _) hh6.2.2.2.2.2.2.2.2.1, pw_cell_below (below_alloc (Below.refl _ _) _) hh6.2.2.2.2.2.2.2.2.2.1, pw_cell_below (below_alloc (Below.refl _ _) _) hh6.2.2.2.2.2.2.2.2.2.2.1, pw_cell_below (below_alloc (Below.refl _ _) _) hh6.2.2.2.2.2.2.2.2.2.2.2⟩ (fun hHeld => ?_)
            clear hK K
            refine norm_ (a' := ?_) ?_ ?_
            rotate_left
            · show Act.put _ (some 9) _ = _
              simp only [Act.put, List.setIfInBounds_toArray, List.set_cons_zero, List.set_cons_succ, i64_w, i32_w]
              rfl
            exact norm_ (by simp only [putAll, Act.put, List.setIfInBounds_toArray, List.set_cons_zero, List.set_cons_succ] <;> rfl) (hCont (.slice (some ⟨gB8, 0, none⟩) a0_0.toNat cap8, .pointer (some ⟨w8.heap.size, 0, none⟩)) _ (king_Play.close1 np ho8 hh3.1.out.size hHeld.1.out))
          · skip
            have hh6 := hHeld
            refine value_ (w1 := ?_) (v := ?_) (by rfl) rfl ?_ ?_
            rotate_left 2
            · go_simp
              constructor
              · rfl
              · rfl
            refine hK.out _ _ ⟨⟨below_step hh6.1.out (below_alloc (Below.refl _ _) _)⟩, pw_cell_below (below_alloc (Below.refl _ _) _) hh6.2.1, pw_cell_below (below_alloc (Below.refl _ _) _) hh6.2.2.1, pw_cell_below (below_alloc (Below.refl _ _) _) hh6.2.2.2.1, pw_cell_below (below_alloc (Below.refl _ _) _) hh6.2.2.2.2.1, pw_cell_below (below_alloc (Below.refl _ _) _) hh6.2.2.2.2.2.1, pw_cell_below (below_alloc (Below.refl _ _) _) hh6.2.2.2.2.2.2.1, pw_cell_below (below_alloc (Below.refl _ _) _) hh6.2.2.2.2.2.2.2.1, pw_cell_below (below_alloc (Below.refl _ _) _) hh6.2.2.2.2.2.2.2.2.1, pw_cell_below (below_alloc (Below.refl _ _) _) hh6.2.2.2.2.2.2.2.2.2.1, pw_cell_below (below_alloc (Below.refl _ _) _) hh6.2.2.2.2.2.2.2.2.2.2.1, pw_cell_below (below_alloc (Below.refl _ _) _) hh6.2.2.2.2.2.2.2.2.2.2.2⟩ (fun hHeld => ?_)
            clear hK K
            refine norm_ (a' := ?_) ?_ ?_
            rotate_left
            · show Act.put _ (some 9) _ = _
              simp only [Act.put, List.setIfInBounds_toArray, List.set_cons_zero, List.set_cons_succ, i64_w, i32_w]
              rfl
            refine one_ (i := 3) (N := some 18) #[true, true, true, true, true, false, true, false] rfl rfl (by kernel_rfl) (by decide) (fun K hK => ?_)
            have hh3 := hHeld
            refine Kd.R_make_step k52 _ 52 (by rfl) (N := 18) rfl 81 _ _ rfl a0_0 rfl rfl Try.underlying81 (.agg #[(.int .i64 0), (.bool false)]) 16 info52 rfl (by decide) (by omega) z52 (ok := fun _ => True) (okp := fun _ => True) (k52_mkM _ _ _ z52) (fun _ hk => hk) trivial n0 n1 (Below.refl _ _) (Nat.le_refl _) ?_
            intro v8 w8 ho8 hb8 hg8 hnew8
            obtain ⟨gB8, cap8, e8, _⟩ := Kd.R_form ho8 (by rw [List.length_replicate]; exact np)
            rw [List.length_replicate] at e8
            subst e8
            clear hg8 hnew8
            refine hK.out _ _ ⟨⟨below_step hh3.1.out hb8⟩, pw_cell_below hb8 hh3.2.1, pw_cell_below hb8 hh3.2.2.1, pw_cell_below hb8 hh3.2.2.2.1, pw_cell_below hb8 hh3.2.2.2.2.1, pw_cell_below hb8 hh3.2.2.2.2.2.1, pw_cell_below hb8 hh3.2.2.2.2.2.2.1, pw_cell_below hb8 hh3.2.2.2.2.2.2.2.1, pw_cell_below hb8 hh3.2.2.2.2.2.2.2.2.1, pw_cell_below hb8 hh3.2.2.2.2.2.2.2.2.2.1, pw_cell_below hb8 hh3.2.2.2.2.2.2.2.2.2.2.1, pw_cell_below hb8 hh3.2.2.2.2.2.2.2.2.2.2.2⟩ (fun hHeld => ?_)
            clear hK K
            refine norm_ (a' := ?_) ?_ ?_
            rotate_left
            · show Act.put _ (some 18) _ = _
              simp only [Act.put, List.setIfInBounds_toArray, List.set_cons_zero, List.set_cons_succ, i64_w, i32_w]
              rfl
            refine pure_ (i := 5) (N := some 20) (v := ?_) (a' := ?_) #[true, true, true, true, true, true, true, false] rfl rfl (by kernel_rfl) (fun _ _ _ h => h) (Or.inl ⟨by rfl, ?_⟩) ?_ ?_
            rotate_left
            · intro w'
              go_simp
              with_reducible rfl
            rotate_left
            · simp only [Act.put, List.setIfInBounds_toArray, List.set_cons_zero, List.set_cons_succ, i64_w, i32_w]
              rfl
            exact norm_ (by simp only [putAll, Act.put, List.setIfInBounds_toArray, List.set_cons_zero, List.set_cons_succ] <;> rfl) (hCont (.slice (some ⟨gB8, 0, none⟩) a0_0.toNat cap8, _) _ (king_Play.close2 (W := w2.drew) np ho8 hb8 hh6.1.out.size hHeld.1.out))
        rintro ⟨s1, s2⟩ w3 hF
        obtain ⟨gB, cap, gP, e1, e2, gb1, gb2, HRb, HBK, HBl⟩ := hF
        dsimp only at e1 e2
        subst e1
        subst e2
        have hz0 : w3.cell? ⟨gP, 0, none⟩ = some (.int .i64 0) := (blk_cell HBK.out 0).trans rfl
        have hz1 : w3.cell? ⟨gP, 1, none⟩ = some (.int .i64 0) := (blk_cell HBK.out 1).trans rfl
        have hz2 : w3.cell? ⟨gP, 2, none⟩ = some (.int .i64 0) := (blk_cell HBK.out 2).trans rfl
        have hz3 : w3.cell? ⟨gP, 3, none⟩ = some (.int .i64 0) := (blk_cell HBK.out 3).trans rfl
        have hz4 : w3.cell? ⟨gP, 4, none⟩ = some (.int .i64 0) := (blk_cell HBK.out 4).trans rfl
        have hz5 : w3.cell? ⟨gP, 5, none⟩ = some (.int .i64 0) := (blk_cell HBK.out 5).trans rfl
        have hz6 : w3.cell? ⟨gP, 6, none⟩ = some (.int .i64 0) := (blk_cell HBK.out 6).trans rfl
        have hz7 : w3.cell? ⟨gP, 7, none⟩ = some (.int .i64 0) := (blk_cell HBK.out 7).trans rfl
        have hz8 : w3.cell? ⟨gP, 8, none⟩ = some (.int .i64 0) := (blk_cell HBK.out 8).trans rfl
        have hz9 : w3.cell? ⟨gP, 9, none⟩ = some (.int .i64 0) := (blk_cell HBK.out 9).trans rfl
        have hz10 : w3.cell? ⟨gP, 10, none⟩ = some (.slice none 0 0) := (blk_cell HBK.out 10).trans rfl
        have hz11 : w3.cell? ⟨gP, 11, none⟩ = some (.slice none 0 0) := (blk_cell HBK.out 11).trans rfl
        have hz12 : w3.cell? ⟨gP, 12, none⟩ = some (.slice none 0 0) := (blk_cell HBK.out 12).trans rfl
        have hz13 : w3.cell? ⟨gP, 13, none⟩ = some (.nilFunc) := (blk_cell HBK.out 13).trans rfl
        have hf0 := blk_frozen HBK.out 0
        have hf1 := blk_frozen HBK.out 1
        have hf2 := blk_frozen HBK.out 2
        have hf3 := blk_frozen HBK.out 3
        have hf4 := blk_frozen HBK.out 4
        have hf5 := blk_frozen HBK.out 5
        have hf6 := blk_frozen HBK.out 6
        have hf7 := blk_frozen HBK.out 7
        have hf8 := blk_frozen HBK.out 8
        have hf9 := blk_frozen HBK.out 9
        have hf10 := blk_frozen HBK.out 10
        have hf11 := blk_frozen HBK.out 11
        have hf12 := blk_frozen HBK.out 12
        have hf13 := blk_frozen HBK.out 13
        refine norm_ (a' := ?_) ?_ ?_
        rotate_left
        · simp only [putAll, Act.put, List.setIfInBounds_toArray, List.set_cons_zero, List.set_cons_succ]
          rfl
        refine last_ (i := 7) (N := none) #[true, true, true, true, true, true, true, true] rfl rfl (by kernel_rfl) (by decide) (fun K hK => ?_)
        refine skip_ (w1 := ?_) (by rfl) rfl ?_ ?_
        rotate_left
        · go_simp
          rfl
        refine hK.out _ _ ?_
        clear hK K
        refine done_ (by kernel_rfl) ?_
        have m0 := Aside0.mk (show Kd.R k52 52 ((((((((((((((w3.setCell ⟨gP, 0, none⟩ (.int .i64 a0_0)).setCell ⟨gP, 1, none⟩ (.int .i64 a0_1)).setCell ⟨gP, 2, none⟩ (.int .i64 a0_2)).setCell ⟨gP, 3, none⟩ (.int .i64 a0_3)).setCell ⟨gP, 4, none⟩ (.int .i64 a0_4)).setCell ⟨gP, 5, none⟩ (.int .i64 a0_5)).setCell ⟨gP, 6, none⟩ (.int .i64 a0_6)).setCell ⟨gP, 7, none⟩ (.int .i64 a0_7)).setCell ⟨gP, 8, none⟩ (.int .i64 a0_8)).setCell ⟨gP, 9, none⟩ (.int .i64 a0_9)).setCell ⟨gP, 10, none⟩ (.slice A0_10 l0_10.length c0_10)).setCell ⟨gP, 11, none⟩ (.slice (some ⟨gB, 0, none⟩) a0_0.toNat cap)).setCell ⟨gP, 12, none⟩ (.slice A2 l2.length c2)).setCell ⟨gP, 13, none⟩ (.nilFunc)) w2.heap.size (fun k => k ≠ gP) (.slice (some ⟨gB, 0, none⟩) a0_0.toNat cap) (List.replicate a0_0.toNat z52) from Kd.R_far (p := ⟨gP, 13, none⟩) (Kd.R_far (p := ⟨gP, 12, none⟩) (Kd.R_far (p := ⟨gP, 11, none⟩) (Kd.R_far (p := ⟨gP, 10, none⟩) (Kd.R_far (p := ⟨gP, 9, none⟩) (Kd.R_far (p := ⟨gP, 8, none⟩) (Kd.R_far (p := ⟨gP, 7, none⟩) (Kd.R_far (p := ⟨gP, 6, none⟩) (Kd.R_far (p := ⟨gP, 5, none⟩) (Kd.R_far (p := ⟨gP, 4, none⟩) (Kd.R_far (p := ⟨gP, 3, none⟩) (Kd.R_far (p := ⟨gP, 2, none⟩) (Kd.R_far (p := ⟨gP, 1, none⟩) (Kd.R_far (p := ⟨gP, 0, none⟩) (HRb.out) (fun _ hk => hk) (.int .i64 a0_0)) (fun _ hk => hk) (.int .i64 a0_1)) (fun _ hk => hk) (.int .i64 a0_2)) (fun _ hk => hk) (.int .i64 a0_3)) (fun _ hk => hk) (.int .i64 a0_4)) (fun _ hk => hk) (.int .i64 a0_5)) (fun _ hk => hk) (.int .i64 a0_6)) (fun _ hk => hk) (.int .i64 a0_7)) (fun _ hk => hk) (.int .i64 a0_8)) (fun _ hk => hk) (.int .i64 a0_9)) (fun _ hk => hk) (.slice A0_10 l0_10.length c0_10)) (fun _ hk => hk) (.slice (some ⟨gB, 0, none⟩) a0_0.toNat cap)) (fun _ hk => hk) (.slice A2 l2.length c2)) (fun _ hk => hk) (.nilFunc))
        have m1 := Aside0.mk (show ((((((((((((((w3.setCell ⟨gP, 0, none⟩ (.int .i64 a0_0)).setCell ⟨gP, 1, none⟩ (.int .i64 a0_1)).setCell ⟨gP, 2, none⟩ (.int .i64 a0_2)).setCell ⟨gP, 3, none⟩ (.int .i64 a0_3)).setCell ⟨gP, 4, none⟩ (.int .i64 a0_4)).setCell ⟨gP, 5, none⟩ (.int .i64 a0_5)).setCell ⟨gP, 6, none⟩ (.int .i64 a0_6)).setCell ⟨gP, 7, none⟩ (.int .i64 a0_7)).setCell ⟨gP, 8, none⟩ (.int .i64 a0_8)).setCell ⟨gP, 9, none⟩ (.int .i64 a0_9)).setCell ⟨gP, 10, none⟩ (.slice A0_10 l0_10.length c0_10)).setCell ⟨gP, 11, none⟩ (.slice (some ⟨gB, 0, none⟩) a0_0.toNat cap)).setCell ⟨gP, 12, none⟩ (.slice A2 l2.length c2)).setCell ⟨gP, 13, none⟩ (.nilFunc)).heap[gP]? = some (.cells #[.int .i64 a0_0, .int .i64 a0_1, .int .i64 a0_2, .int .i64 a0_3, .int .i64 a0_4, .int .i64 a0_5, .int .i64 a0_6, .int .i64 a0_7, .int .i64 a0_8, .int .i64 a0_9, .slice A0_10 l0_10.length c0_10, .slice (some ⟨gB, 0, none⟩) a0_0.toNat cap, .slice A2 l2.length c2, .nilFunc] 84 (0, 0)) from blk_put (cs := #[.int .i64 a0_0, .int .i64 a0_1, .int .i64 a0_2, .int .i64 a0_3, .int .i64 a0_4, .int .i64 a0_5, .int .i64 a0_6, .int .i64 a0_7, .int .i64 a0_8, .int .i64 a0_9, .slice A0_10 l0_10.length c0_10, .slice (some ⟨gB, 0, none⟩) a0_0.toNat cap, .slice A2 l2.length c2, .nilFunc]) (blk_put (cs := #[.int .i64 a0_0, .int .i64 a0_1, .int .i64 a0_2, .int .i64 a0_3, .int .i64 a0_4, .int .i64 a0_5, .int .i64 a0_6, .int .i64 a0_7, .int .i64 a0_8, .int .i64 a0_9, .slice A0_10 l0_10.length c0_10, .slice (some ⟨gB, 0, none⟩) a0_0.toNat cap, .slice none 0 0, .nilFunc]) (blk_put (cs := #[.int .i64 a0_0, .int .i64 a0_1, .int .i64 a0_2, .int .i64 a0_3, .int .i64 a0_4, .int .i64 a0_5, .int .i64 a0_6, .int .i64 a0_7, .int .i64 a0_8, .int .i64 a0_9, .slice A0_10 l0_10.length c0_10, .slice none 0 0, .slice none 0 0, .nilFunc]) (blk_put (cs := #[.int .i64 a0_0, .int .i64 a0_1, .int .i64 a0_2, .int .i64 a0_3, .int .i64 a0_4, .int .i64 a0_5, .int .i64 a0_6, .int .i64 a0_7, .int .i64 a0_8, .int .i64 a0_9, .slice none 0 0, .slice none 0 0, .slice none 0 0, .nilFunc]) (blk_put (cs := #[.int .i64 a0_0, .int .i64 a0_1, .int .i64 a0_2, .int .i64 a0_3, .int .i64 a0_4, .int .i64 a0_5, .int .i64 a0_6, .int .i64 a0_7, .int .i64 a0_8, .int .i64 0, .slice none 0 0, .slice none 0 0, .slice none 0 0, .nilFunc]) (blk_put (cs := #[.int .i64 a0_0, .int .i64 a0_1, .int .i64 a0_2, .int .i64 a0_3, .int .i64 a0_4, .int .i64 a0_5, .int .i64 a0_6, .int .i64 a0_7, .int .i64 0, .int .i64 0, .slice none 0 0, .slice none 0 0, .slice none 0 0, .nilFunc]) (blk_put (cs := #[.int .i64 a0_0, .int .i64 a0_1, .int .i64 a0_2, .int .i64 a0_3, .int .i64 a0_4, .int .i64 a0_5, .int .i64 a0_6, .int .i64 0, .int .i64 0, .int .i64 0, .slice none 0 0, .slice none 0 0, .slice none 0 0, .nilFunc]) (blk_put (cs := #[.int .i64 a0_0, .int .i64 a0_1, .int .i64 a0_2, .int .i64 a0_3, .int .i64 a0_4, .int .i64 a0_5, .int .i64 0, .int .i64 0, .int .i64 0, .int .i64 0, .slice none 0 0, .slice none 0 0, .slice none 0 0, .nilFunc]) (blk_put (cs := #[.int .i64 a0_0, .int .i64 a0_1, .int .i64 a0_2, .int .i64 a0_3, .int .i64 a0_4, .int .i64 0, .int .i64 0, .int .i64 0, .int .i64 0, .int .i64 0, .slice none 0 0, .slice none 0 0, .slice none 0 0, .nilFunc]) (blk_put (cs := #[.int .i64 a0_0, .int .i64 a0_1, .int .i64 a0_2, .int .i64 a0_3, .int .i64 0, .int .i64 0, .int .i64 0, .int .i64 0, .int .i64 0, .int .i64 0, .slice none 0 0, .slice none 0 0, .slice none 0 0, .nilFunc]) (blk_put (cs := #[.int .i64 a0_0, .int .i64 a0_1, .int .i64 a0_2, .int .i64 0, .int .i64 0, .int .i64 0, .int .i64 0, .int .i64 0, .int .i64 0, .int .i64 0, .slice none 0 0, .slice none 0 0, .slice none 0 0, .nilFunc]) (blk_put (cs := #[.int .i64 a0_0, .int .i64 a0_1, .int .i64 0, .int .i64 0, .int .i64 0, .int .i64 0, .int .i64 0, .int .i64 0, .int .i64 0, .int .i64 0, .slice none 0 0, .slice none 0 0, .slice none 0 0, .nilFunc]) (blk_put (cs := #[.int .i64 a0_0, .int .i64 0, .int .i64 0, .int .i64 0, .int .i64 0, .int .i64 0, .int .i64 0, .int .i64 0, .int .i64 0, .int .i64 0, .slice none 0 0, .slice none 0 0, .slice none 0 0, .nilFunc]) (blk_put (cs := #[.int .i64 0, .int .i64 0, .int .i64 0, .int .i64 0, .int .i64 0, .int .i64 0, .int .i64 0, .int .i64 0, .int .i64 0, .int .i64 0, .slice none 0 0, .slice none 0 0, .slice none 0 0, .nilFunc]) (HBK.out) 0 _ rfl) 1 _ rfl) 2 _ rfl) 3 _ rfl) 4 _ rfl) 5 _ rfl) 6 _ rfl) 7 _ rfl) 8 _ rfl) 9 _ rfl) 10 _ rfl) 11 _ rfl) 12 _ rfl) 13 _ rfl)
        have m2 := Aside0.mk (show Below w2.heap.size w2 ((((((((((((((w3.setCell ⟨gP, 0, none⟩ (.int .i64 a0_0)).setCell ⟨gP, 1, none⟩ (.int .i64 a0_1)).setCell ⟨gP, 2, none⟩ (.int .i64 a0_2)).setCell ⟨gP, 3, none⟩ (.int .i64 a0_3)).setCell ⟨gP, 4, none⟩ (.int .i64 a0_4)).setCell ⟨gP, 5, none⟩ (.int .i64 a0_5)).setCell ⟨gP, 6, none⟩ (.int .i64 a0_6)).setCell ⟨gP, 7, none⟩ (.int .i64 a0_7)).setCell ⟨gP, 8, none⟩ (.int .i64 a0_8)).setCell ⟨gP, 9, none⟩ (.int .i64 a0_9)).setCell ⟨gP, 10, none⟩ (.slice A0_10 l0_10.length c0_10)).setCell ⟨gP, 11, none⟩ (.slice (some ⟨gB, 0, none⟩) a0_0.toNat cap)).setCell ⟨gP, 12, none⟩ (.slice A2 l2.length c2)).setCell ⟨gP, 13, none⟩ (.nilFunc)) from ((((((((((((((HBl.out).setCell (p := ⟨gP, 0, none⟩) gb2 _).setCell (p := ⟨gP, 1, none⟩) gb2 _).setCell (p := ⟨gP, 2, none⟩) gb2 _).setCell (p := ⟨gP, 3, none⟩) gb2 _).setCell (p := ⟨gP, 4, none⟩) gb2 _).setCell (p := ⟨gP, 5, none⟩) gb2 _).setCell (p := ⟨gP, 6, none⟩) gb2 _).setCell (p := ⟨gP, 7, none⟩) gb2 _).setCell (p := ⟨gP, 8, none⟩) gb2 _).setCell (p := ⟨gP, 9, none⟩) gb2 _).setCell (p := ⟨gP, 10, none⟩) gb2 _).setCell (p := ⟨gP, 11, none⟩) gb2 _).setCell (p := ⟨gP, 12, none⟩) gb2 _).setCell (p := ⟨gP, 13, none⟩) gb2 _)
        clear HRb HBK HBl hz0 hf0 hz1 hf1 hz2 hf2 hz3 hf3 hz4 hf4 hz5 hf5 hz6 hf6 hz7 hf7 hz8 hf8 hz9 hf9 hz10 hf10 hz11 hf11 hz12 hf12 hz13 hf13
        generalize ((((((((((((((w3.setCell ⟨gP, 0, none⟩ (.int .i64 a0_0)).setCell ⟨gP, 1, none⟩ (.int .i64 a0_1)).setCell ⟨gP, 2, none⟩ (.int .i64 a0_2)).setCell ⟨gP, 3, none⟩ (.int .i64 a0_3)).setCell ⟨gP, 4, none⟩ (.int .i64 a0_4)).setCell ⟨gP, 5, none⟩ (.int .i64 a0_5)).setCell ⟨gP, 6, none⟩ (.int .i64 a0_6)).setCell ⟨gP, 7, none⟩ (.int .i64 a0_7)).setCell ⟨gP, 8, none⟩ (.int .i64 a0_8)).setCell ⟨gP, 9, none⟩ (.int .i64 a0_9)).setCell ⟨gP, 10, none⟩ (.slice A0_10 l0_10.length c0_10)).setCell ⟨gP, 11, none⟩ (.slice (some ⟨gB, 0, none⟩) a0_0.toNat cap)).setCell ⟨gP, 12, none⟩ (.slice A2 l2.length c2)).setCell ⟨gP, 13, none⟩ (.nilFunc)) = w4 at m0 m1 m2 ⊢
        clear q0 q1 q2 q3 q4 q5 q6 q7 q8 q9 q10
        have KC4 := Aside0.mk (blk_below KC.out m2.out)
        have KL4 := Aside0.mk (blk_below KL.out m2.out)
        have HB4 := Aside0.mk (below_then HB2.out HB2.out.size m2.out)
        have q0 : w4.cell? ⟨w.heap.size, 0, none⟩ = some (.int .i64 a0_0) := (blk_cell KC4.out 0).trans rfl
        have HFl := Aside0.mk (king_Play.first_len a0_0 l1)
        have hne : gP ≠ gB := fun e => (Kd.R_away m0.out (fun k hk => hk)) (by rw [e]; rfl)
        by_cases hmn : (l1.length : Int) ≤ a0_0
        · have hQ1 : (l1.length : Int) ≤ l1.length := Int.le_refl _
          go_wp2
          go_loopw [26] (fun v26 wr => ∃ j : Nat, v26 = .int .i64 j ∧ (j : Int) ≤ (l1.length : Int) ∧ Aside0 (Kd.R k52 52 wr w2.heap.size (fun k => k ≠ gP) (.slice (some ⟨gB, 0, none⟩) a0_0.toNat cap) (KW.part z52 (king_Play.first a0_0 l1) a0_0.toNat j)) ∧ Aside0 (wr.heap[gP]? = some (.cells #[.int .i64 a0_0, .int .i64 a0_1, .int .i64 a0_2, .int .i64 a0_3, .int .i64 a0_4, .int .i64 a0_5, .int .i64 a0_6, .int .i64 a0_7, .int .i64 a0_8, .int .i64 a0_9, .slice A0_10 l0_10.length c0_10, .slice (some ⟨gB, 0, none⟩) a0_0.toNat cap, .slice A2 l2.length c2, .nilFunc] 84 (0, 0))) ∧ Aside0 (Below w2.heap.size w2 wr)) (fun i _ => ((l1.length : Int) - intOf i).toNat)
          case atStart => exact ⟨0, rfl, by omega, ⟨by rw [KW.part_zero]; exact m0.out⟩, m1, m2⟩
          case round =>
            clear m0 m1 m2 KC4 KL4 HB4 q0
            obtain ⟨j, rfl, hj, HRb, HBK, HBl⟩ := hrel
            by_cases hlt : (j : Int) < (l1.length : Int)
            · have hltb : decide ((j : Int) < (l1.length : Int)) = true := decide_eq_true hlt
              have hjn : j < a0_0.toNat := by omega
              have hj0 : 0 ≤ (j : Int) := by omega
              have hjl : (j : Int) < (l1.length : Int) := by omega
              have hjm : (j : Int) < max a0_0 0 := by omega
              obtain ⟨ad, ea, hy0⟩ := Kd.at_int (Kd.C_below HR1.out (below_step HB2.out HBl.out)) (j : Int) hj0 hjl
              subst ea
              rw [Int.toNat_natCast] at hy0
              have hq11 : wr.cell? ⟨gP, 11, none⟩ = some (.slice (some ⟨gB, 0, none⟩) a0_0.toNat cap) := (blk_cell HBK.out 11).trans rfl
              have hyd : (king_Play.first a0_0 l1).getD j z52 = king_Play.start (rd l1 (j : Int)) := KW.getD_range _ z52 hjn
              have hst : king_Start.f (rd l1 (j : Int)) = some ((king_Play.start (rd l1 (j : Int))).f0, (king_Play.start (rd l1 (j : Int))).f1) := king_Play.start_at _
              generalize king_Play.start (rd l1 (j : Int)) = y at hyd hst
              have HYd := Aside0.mk hyd
              have HSt := Aside0.mk hst
              clear hyd hst
              go_wp2
              refine start_ (n := 10) (S := fun w' => w'.cell? ⟨gP, 11, none⟩ = some (.slice (some ⟨gB, 0, none⟩) a0_0.toNat cap) ∧ w'.cell? (ad.add j) = some (.int .i64 (rd l1 (j : Int)))) (ds := [9]) #[false, false, false, false, false, false, false, false, false, false] (by kernel_rfl) rfl rfl ⟨hq11, hy0⟩ (fun hHeld => ?_)
              refine pure_ (i := 0) (N := some 29) (v := ?_) (a' := ?_) #[true, false, false, false, false, false, false, false, false, false] rfl rfl (by kernel_rfl) (fun _ _ _ h => h) (Or.inl ⟨by rfl, ?_⟩) ?_ ?_
              rotate_left
              · intro w'
                go_simp
                with_reducible rfl
              rotate_left
              · simp only [Act.put, List.setIfInBounds_toArray, List.set_cons_zero, List.set_cons_succ, i64_w, i32_w]
                rfl
              refine pure_ (i := 2) (N := some 31) (v := ?_) (a' := ?_) #[true, false, true, false, false, false, false, false, false, false] rfl rfl (by kernel_rfl) (fun _ _ _ h => h) (Or.inl ⟨by rfl, ?_⟩) ?_ ?_
              rotate_left
              · intro w'
                go_simp
                with_reducible rfl
              rotate_left
              · simp only [Act.put, List.setIfInBounds_toArray, List.set_cons_zero, List.set_cons_succ, i64_w, i32_w]
                rfl
              refine pure_ (i := 3) (N := some 32) (v := ?_) (a' := ?_) #[true, false, true, true, false, false, false, false, false, false] rfl rfl (by kernel_rfl) (fun _ _ _ h => h) (Or.inl ⟨by rfl, ?_⟩) ?_ ?_
              rotate_left
              · intro w'
                go_simp
                with_reducible rfl
              rotate_left
              · simp only [Act.put, List.setIfInBounds_toArray, List.set_cons_zero, List.set_cons_succ, i64_w, i32_w]
                rfl
              refine pure_ (i := 4) (N := some 33) (v := ?_) (a' := ?_) #[true, false, true, true, true, false, false, false, false, false] rfl rfl (by kernel_rfl) (fun _ _ _ h => h) (Or.inl ⟨by rfl, ?_⟩) ?_ ?_
              rotate_left
              · intro w'
                go_simp
                with_reducible rfl
              rotate_left
              · simp only [Act.put, List.setIfInBounds_toArray, List.set_cons_zero, List.set_cons_succ, i64_w, i32_w]
                rfl
              refine pure_ (i := 5) (N := some 34) (v := ?_) (a' := ?_) #[true, false, true, true, true, true, false, false, false, false] rfl rfl (by kernel_rfl) (fun _ _ _ h => h) (Or.inl ⟨by rfl, ?_⟩) ?_ ?_
              rotate_left
              · intro w'
                go_simp
                with_reducible rfl
              rotate_left
              · simp only [Act.put, List.setIfInBounds_toArray, List.set_cons_zero, List.set_cons_succ, i64_w, i32_w]
                rfl
              refine take_ (i := 1) (N := some 30) (v := ?_) (a' := ?_) #[true, true, true, true, true, true, false, false, false, false] rfl rfl (by kernel_rfl) (fun _ _ _ h => h) (Or.inl ⟨by rfl, ?_⟩) hHeld ?_ ?_
              rotate_left
              · rintro w' ⟨s0, s1⟩
                go_simp
                with_reducible rfl
              rotate_left
              · simp only [Act.put, List.setIfInBounds_toArray, List.set_cons_zero, List.set_cons_succ, i64_w, i32_w]
                rfl
              refine take_ (i := 6) (N := some 35) (v := ?_) (a' := ?_) #[true, true, true, true, true, true, true, false, false, false] rfl rfl (by kernel_rfl) (fun _ _ _ h => h) (Or.inl ⟨by rfl, ?_⟩) hHeld ?_ ?_
              rotate_left
              · rintro w' ⟨s0, s1⟩
                go_simp
                with_reducible rfl
              rotate_left
              · simp only [Act.put, List.setIfInBounds_toArray, List.set_cons_zero, List.set_cons_succ, i64_w, i32_w]
                rfl
              refine one_ (i := 7) (N := some 36) #[true, true, true, true, true, true, true, true, false, false] rfl rfl (by kernel_rfl) (by decide) (fun K hK => ?_)
              refine goes_ Try.func46 (by kernel_rfl) rfl #[.int .i64 (rd l1 (j : Int))] (by rfl) rfl rfl (by simp only [List.map_toArray, List.map_cons, List.map_nil]; rfl) ?_
              with_reducible refine (king_Start.calls _ y.f0 y.f1 _ HSt.out).mono ?_
              rintro e' w6 ⟨rfl, hb⟩
              refine ⟨_, rfl, ?_⟩
              have HRb6 := Aside0.mk (Kd.R_below (Kd.R_drew HRb.out) hb)
              have HBK6 := Aside0.mk (blk_below (blk_drew HBK.out) hb)
              have HBl6 := Aside0.mk (below_step (below_drew1 HBl.out) hb)
              have HY6 : w6.cell? (ad.add j) = some (.int .i64 (rd l1 (j : Int))) := pw_cell_below hb hy0
              have HZ6 : w6.cell? ⟨gP, 11, none⟩ = some (.slice (some ⟨gB, 0, none⟩) a0_0.toNat cap) := (blk_cell HBK6.out 11).trans rfl
              clear hb
              obtain ⟨ce, hcl, hM, hcc, hfr⟩ := Kd.R_elem HRb6.out z52 (j : Int) (by omega) (by omega)
              obtain rfl := k52_openM hM
              rw [Int.toNat_natCast] at hcc hfr
              have hx0 : w6.cell? ⟨gB, j * 2, none⟩ = some _ := hcc 0 _ rfl
              have hx1 : w6.cell? ⟨gB, j * 2 + 1, none⟩ = some _ := hcc 1 _ rfl
              have hf0 : w6.frozen? ⟨gB, j * 2, none⟩ = false := hfr 0
              have hf1 : w6.frozen? ⟨gB, j * 2 + 1, none⟩ = false := hfr 1
              refine hK.out _ _ ⟨HZ6, HY6⟩ (fun hHeld => ?_)
              clear hK K
              refine norm_ (a' := ?_) ?_ ?_
              rotate_left
              · show Act.put _ (some 36) _ = _
                simp only [Act.put, List.setIfInBounds_toArray, List.set_cons_zero, List.set_cons_succ, i64_w, i32_w]
                rfl
              refine pure_ (i := 8) (N := some 37) (v := ?_) (a' := ?_) #[true, true, true, true, true, true, true, true, true, false] rfl rfl (by kernel_rfl) (fun _ _ _ h => h) (Or.inl ⟨by rfl, ?_⟩) ?_ ?_
              rotate_left
              · intro w'
                go_simp
                with_reducible rfl
              rotate_left
              · simp only [Act.put, List.setIfInBounds_toArray, List.set_cons_zero, List.set_cons_succ, i64_w, i32_w]
                rfl
              refine last_ (i := 9) (N := none) #[true, true, true, true, true, true, true, true, true, true] rfl rfl (by kernel_rfl) (by decide) (fun K hK => ?_)
              refine skip_ (w1 := ?_) (by rfl) rfl ?_ ?_
              rotate_left
              · go_simp
                rfl
              refine hK.out _ _ ?_
              clear hK K
              refine done_ (by kernel_rfl) ?_
              have HP := Aside0.mk ((Kd.R_seg HRb6.out (j : Int) (by omega) (by omega) (seg := [.int .i64 y.f0, .bool y.f1]) (j := 0) hcl (by rw [Int.toNat_natCast]; exact hcc) (show 2 ≤ 2 from by decide) (x' := (⟨y.f0, y.f1⟩ : S52)) (k52_mkM _ _ _ (⟨y.f0, y.f1⟩ : S52)) (fun _ hk => hk)).1)
              rw [Int.toNat_natCast] at HP
              have n0_ := Aside0.mk (show Kd.R k52 52 ((w6.setCell ⟨gB, j * 2, none⟩ (.int .i64 y.f0)).setCell ⟨gB, j * 2 + 1, none⟩ (.bool y.f1)) w2.heap.size (fun k => k ≠ gP) (.slice (some ⟨gB, 0, none⟩) a0_0.toNat cap) ((KW.part z52 (king_Play.first a0_0 l1) a0_0.toNat j).set j (⟨y.f0, y.f1⟩ : S52)) from HP.out)
              have n1_ := Aside0.mk (blk_far (p := ⟨gB, j * 2 + 1, none⟩) (blk_far (p := ⟨gB, j * 2, none⟩) HBK6.out hne (.int .i64 y.f0)) hne (.bool y.f1))
              have n2_ := Aside0.mk ((HBl6.out.setCell (p := ⟨gB, j * 2, none⟩) gb1 (.int .i64 y.f0)).setCell (p := ⟨gB, j * 2 + 1, none⟩) gb1 (.bool y.f1))
              clear HP hM hcl hcc hfr hx0 hx1 hf0 hf1
              generalize ((w6.setCell ⟨gB, j * 2, none⟩ (.int .i64 y.f0)).setCell ⟨gB, j * 2 + 1, none⟩ (.bool y.f1)) = w7 at n0_ n1_ n2_ ⊢
              go_wp2
              go_roundw
              case rel => exact ⟨j + 1, by go_num, by omega, ⟨by rw [← KW.part_put (z := z52) (V := (king_Play.first a0_0 l1)) (x := (⟨y.f0, y.f1⟩ : S52)) HFl.out hjn HYd.out]; exact n0_.out⟩, n1_, n2_⟩
              case measure => simp [intOf]; omega
            · have hltb : decide ((j : Int) < (l1.length : Int)) = false := decide_eq_false hlt
              have hjq : (j : Int) = (l1.length : Int) := by omega
              have HE := Aside0.mk (king_Play.first_part a0_0 l1 j (by omega) (by omega))
              rw [HE.out] at HRb
              have hz13 : wr.cell? ⟨gP, 13, none⟩ = some .nilFunc := (blk_cell HBK.out 13).trans rfl
              have hf13 := blk_frozen HBK.out 13
              have HB8 := Aside0.mk (HBl.out.setCell (p := ⟨gP, 13, none⟩) gb2 (.func (.func 84) #[] #[.pointer (some ⟨w.heap.size + 1, 0, none⟩), .pointer (some ⟨w.heap.size, 0, none⟩)]))
              have HK8 := Aside0.mk (blk_put HBK.out 13 (.func (.func 84) #[] #[.pointer (some ⟨w.heap.size + 1, 0, none⟩), .pointer (some ⟨w.heap.size, 0, none⟩)]) rfl)
              have HR8 := Aside0.mk (Kd.R_far (p := ⟨gP, 13, none⟩) HRb.out (fun _ hk => hk) (.func (.func 84) #[] #[.pointer (some ⟨w.heap.size + 1, 0, none⟩), .pointer (some ⟨w.heap.size, 0, none⟩)]))
              have p0 : (wr.setCell ⟨gP, 13, none⟩ (.func (.func 84) #[] #[.pointer (some ⟨w.heap.size + 1, 0, none⟩), .pointer (some ⟨w.heap.size, 0, none⟩)])).cell? ⟨w.heap.size, 0, none⟩ = some (.int .i64 a0_0) := (blk_cell (blk_below KC.out HB8.out) 0).trans rfl
              have p1 : (wr.setCell ⟨gP, 13, none⟩ (.func (.func 84) #[] #[.pointer (some ⟨w.heap.size + 1, 0, none⟩), .pointer (some ⟨w.heap.size, 0, none⟩)])).cell? ⟨w.heap.size, 1, none⟩ = some (.int .i64 a0_1) := (blk_cell (blk_below KC.out HB8.out) 1).trans rfl
              have p2 : (wr.setCell ⟨gP, 13, none⟩ (.func (.func 84) #[] #[.pointer (some ⟨w.heap.size + 1, 0, none⟩), .pointer (some ⟨w.heap.size, 0, none⟩)])).cell? ⟨w.heap.size, 2, none⟩ = some (.int .i64 a0_2) := (blk_cell (blk_below KC.out HB8.out) 2).trans rfl
              have p3 : (wr.setCell ⟨gP, 13, none⟩ (.func (.func 84) #[] #[.pointer (some ⟨w.heap.size + 1, 0, none⟩), .pointer (some ⟨w.heap.size, 0, none⟩)])).cell? ⟨w.heap.size, 3, none⟩ = some (.int .i64 a0_3) := (blk_cell (blk_below KC.out HB8.out) 3).trans rfl
              have p4 : (wr.setCell ⟨gP, 13, none⟩ (.func (.func 84) #[] #[.pointer (some ⟨w.heap.size + 1, 0, none⟩), .pointer (some ⟨w.heap.size, 0, none⟩)])).cell? ⟨w.heap.size, 4, none⟩ = some (.int .i64 a0_4) := (blk_cell (blk_below KC.out HB8.out) 4).trans rfl
              have p5 : (wr.setCell ⟨gP, 13, none⟩ (.func (.func 84) #[] #[.pointer (some ⟨w.heap.size + 1, 0, none⟩), .pointer (some ⟨w.heap.size, 0, none⟩)])).cell? ⟨w.heap.size, 5, none⟩ = some (.int .i64 a0_5) := (blk_cell (blk_below KC.out HB8.out) 5).trans rfl
              have p6 : (wr.setCell ⟨gP, 13, none⟩ (.func (.func 84) #[] #[.pointer (some ⟨w.heap.size + 1, 0, none⟩), .pointer (some ⟨w.heap.size, 0, none⟩)])).cell? ⟨w.heap.size, 6, none⟩ = some (.int .i64 a0_6) := (blk_cell (blk_below KC.out HB8.out) 6).trans rfl
              have p7 : (wr.setCell ⟨gP, 13, none⟩ (.func (.func 84) #[] #[.pointer (some ⟨w.heap.size + 1, 0, none⟩), .pointer (some ⟨w.heap.size, 0, none⟩)])).cell? ⟨w.heap.size, 7, none⟩ = some (.int .i64 a0_7) := (blk_cell (blk_below KC.out HB8.out) 7).trans rfl
              have p8 : (wr.setCell ⟨gP, 13, none⟩ (.func (.func 84) #[] #[.pointer (some ⟨w.heap.size + 1, 0, none⟩), .pointer (some ⟨w.heap.size, 0, none⟩)])).cell? ⟨w.heap.size, 8, none⟩ = some (.int .i64 a0_8) := (blk_cell (blk_below KC.out HB8.out) 8).trans rfl
              have p9 : (wr.setCell ⟨gP, 13, none⟩ (.func (.func 84) #[] #[.pointer (some ⟨w.heap.size + 1, 0, none⟩), .pointer (some ⟨w.heap.size, 0, none⟩)])).cell? ⟨w.heap.size, 9, none⟩ = some (.int .i64 a0_9) := (blk_cell (blk_below KC.out HB8.out) 9).trans rfl
              have p10 : (wr.setCell ⟨gP, 13, none⟩ (.func (.func 84) #[] #[.pointer (some ⟨w.heap.size + 1, 0, none⟩), .pointer (some ⟨w.heap.size, 0, none⟩)])).cell? ⟨w.heap.size, 10, none⟩ = some (.slice A0_10 l0_10.length c0_10) := (blk_cell (blk_below KC.out HB8.out) 10).trans rfl
              go_wp2_with (first | (go_at_call 85; (with_reducible refine (conf_Rounds.calls k a0_0 a0_1 a0_2 a0_3 a0_4 a0_5 a0_6 a0_7 a0_8 a0_9 _ _ l0_10 r_ _ ?side1 ?side2 HRD.out).mono ?_); (case side1 => exact Kd.C_below HR.out (below_step HB2.out HB8.out)); (case side2 => exact HC.out); rintro e' w9 ⟨rfl, hb⟩; have B9 := Aside0.mk (below_step HB8.out hb); have R9 := Aside0.mk (Kd.R_below HR8.out hb); have HMm : Aside0 (king_play_votes.Mem w w9 gP (w.heap.size + 1) w.heap.size (⟨a0_0, a0_1, a0_2, a0_3, a0_4, a0_5, a0_6, a0_7, a0_8, a0_9, l0_10⟩ : S24) l2 l3 (king_Play.first a0_0 l1) A0_10 (some ⟨gB, 0, none⟩) A2 A3 c0_10 cap c2 c3) := ⟨{ blk := by simp only [king_play_votes.cells, HFl.out]; exact blk_below HK8.out hb, lies := (blk_cell (blk_below KL.out B9.out) 0).trans rfl, conf := (blk_cell (blk_below KC.out B9.out) 0).trans rfl, bel := below_step HB2.out B9.out, new := by have := HSZ.out; omega, nl := by have := HSZ.out; omega, nc := by have := HSZ.out; omega, rt0 := HR.out, rf0 := HR2.out, rl0 := HR3.out, rb := (Kd.R_reads' R9.out).2.2, ht := HC.out, hb := by rw [HFl.out]; exact (Kd.R_reads' R9.out).2.1, hf := HC2.out, hl := HC3.out }⟩; clear hb p0 p1 p2 p3 p4 p5 p6 p7 p8 p9 p10 hz13 hf13) | (go_at_call 87; (with_reducible refine (king_play_ends.calls k gP (w.heap.size + 1) w.heap.size (⟨a0_0, a0_1, a0_2, a0_3, a0_4, a0_5, a0_6, a0_7, a0_8, a0_9, l0_10⟩ : S24) l2 l3 B A0_10 AB A2 A3 c0_10 cb c2 c3 w _ HM.out ⟨by omega, by omega⟩ hd3 hd4).mono ?_); rintro e' w11 ⟨v11, rfl, ho, hb⟩; have HOe := Aside0.mk ho; have HBe := Aside0.mk hb; clear ho hb))
              go_loopw [43] (fun v43 wq => ∃ (x : Nat) (B : List S52) (AB : Option Addr) (cb : Nat), v43 = .int .i64 x ∧ (x : Int) ≤ r_ ∧ Aside0 (king_Play.run k (⟨a0_0, a0_1, a0_2, a0_3, a0_4, a0_5, a0_6, a0_7, a0_8, a0_9, l0_10⟩ : S24) l2 l3 (r_.toNat - x) (x : Int) B = some Bf) ∧ Aside0 (king_play_votes.Mem w wq gP (w.heap.size + 1) w.heap.size (⟨a0_0, a0_1, a0_2, a0_3, a0_4, a0_5, a0_6, a0_7, a0_8, a0_9, l0_10⟩ : S24) l2 l3 B A0_10 AB A2 A3 c0_10 cb c2 c3) ∧ Aside0 (B.length = a0_0.toNat)) (fun i _ => (r_ - intOf i).toNat)
              case atStart => exact ⟨0, (king_Play.first a0_0 l1), _, cap, rfl, by have := D2.out; omega, ⟨HRun.out⟩, HMm, HFl⟩
              case round =>
                clear HMm
                obtain ⟨x, B, AB, cb, rfl, hx, HRn, HM, HBl_⟩ := hrel
                by_cases hxl : (x : Int) < r_
                · have hxlb : decide ((x : Int) < r_) = true := decide_eq_true hxl
                  obtain ⟨q, hq⟩ : ∃ q, r_.toNat - x = q + 1 := ⟨r_.toNat - x - 1, by omega⟩
                  have hq2 : q = r_.toNat - (x + 1) := by omega
                  have h := HRn.out
                  rw [hq] at h
                  unfold king_Play.run at h
                  obtain ⟨B2, hx2, h⟩ := Option.bind_eq_some_iff.mp h
                  have HX2 := Aside0.mk hx2
                  rw [hq2] at h
                  have HRn2 := Aside0.mk h
                  have hd1 := D1.out.1
                  have hd2 := D1.out.2.1
                  have hd3 := D1.out.2.2.1
                  have hd4 := D1.out.2.2.2
                  have he1 := D2.out.2.1
                  have he2 := D2.out.2.2
                  clear h hx2 hq hq2 HRn
                  go_wp2_with (go_at_call 86; (with_reducible refine (king_play_exchange.calls k gP (w.heap.size + 1) w.heap.size (⟨a0_0, a0_1, a0_2, a0_3, a0_4, a0_5, a0_6, a0_7, a0_8, a0_9, l0_10⟩ : S24) l2 l3 B B2 A0_10 AB A2 A3 c0_10 cb c2 c3 (x : Int) w _ HM.out ⟨hd1, hd2⟩ HBl_.out hd3 hd4 ⟨by omega, by omega⟩ (by show (x : Int) / 3 < a0_0; omega) HX2.out).mono ?_); rintro e' w10 ⟨vv, AB2, cb2, rfl, hm2, hb2⟩; have HM2 := Aside0.mk hm2; have HB2_ := Aside0.mk hb2; clear hm2 hb2)
                  go_roundw
                  case rel => exact ⟨x + 1, B2, AB2, cb2, by go_num, by omega, HRn2, HM2, HB2_⟩
                  case measure => simp [intOf]; omega
                · have hxlb : decide ((x : Int) < r_) = false := decide_eq_false hxl
                  have hq0 : r_.toNat - x = 0 := by omega
                  have h := HRn.out
                  rw [hq0] at h
                  obtain rfl := Option.some.inj h
                  have hd1 := D1.out.1
                  have hd2 := D1.out.2.1
                  have hd3 := D1.out.2.2.1
                  have hd4 := D1.out.2.2.2
                  have hBm := HBl_.out
                  clear h hq0 HRn
                  go_wp2_with (first | (go_at_call 85; (with_reducible refine (conf_Rounds.calls k a0_0 a0_1 a0_2 a0_3 a0_4 a0_5 a0_6 a0_7 a0_8 a0_9 _ _ l0_10 r_ _ ?side1 ?side2 HRD.out).mono ?_); (case side1 => exact Kd.C_below HR.out (below_step HB2.out HB8.out)); (case side2 => exact HC.out); rintro e' w9 ⟨rfl, hb⟩; have B9 := Aside0.mk (below_step HB8.out hb); have R9 := Aside0.mk (Kd.R_below HR8.out hb); have HMm : Aside0 (king_play_votes.Mem w w9 gP (w.heap.size + 1) w.heap.size (⟨a0_0, a0_1, a0_2, a0_3, a0_4, a0_5, a0_6, a0_7, a0_8, a0_9, l0_10⟩ : S24) l2 l3 (king_Play.first a0_0 l1) A0_10 (some ⟨gB, 0, none⟩) A2 A3 c0_10 cap c2 c3) := ⟨{ blk := by simp only [king_play_votes.cells, HFl.out]; exact blk_below HK8.out hb, lies := (blk_cell (blk_below KL.out B9.out) 0).trans rfl, conf := (blk_cell (blk_below KC.out B9.out) 0).trans rfl, bel := below_step HB2.out B9.out, new := by have := HSZ.out; omega, nl := by have := HSZ.out; omega, nc := by have := HSZ.out; omega, rt0 := HR.out, rf0 := HR2.out, rl0 := HR3.out, rb := (Kd.R_reads' R9.out).2.2, ht := HC.out, hb := by rw [HFl.out]; exact (Kd.R_reads' R9.out).2.1, hf := HC2.out, hl := HC3.out }⟩; clear hb p0 p1 p2 p3 p4 p5 p6 p7 p8 p9 p10 hz13 hf13) | (go_at_call 87; (with_reducible refine (king_play_ends.calls k gP (w.heap.size + 1) w.heap.size (⟨a0_0, a0_1, a0_2, a0_3, a0_4, a0_5, a0_6, a0_7, a0_8, a0_9, l0_10⟩ : S24) l2 l3 B A0_10 AB A2 A3 c0_10 cb c2 c3 w _ HM.out ⟨by omega, by omega⟩ hd3 hd4).mono ?_); rintro e' w11 ⟨v11, rfl, ho, hb⟩; have HOe := Aside0.mk ho; have HBe := Aside0.mk hb; clear ho hb))
                  go_ret
                  exact ⟨_, rfl, Kd.R_lower HOe.out HM.out.bel.size, below_step HM.out.bel HBe.out⟩
        · have hQ1 : a0_0 ≤ l1.length := by omega
          replace hmn : a0_0 < (l1.length : Int) := by omega
          go_wp2
          go_loopw [26] (fun v26 wr => ∃ j : Nat, v26 = .int .i64 j ∧ (j : Int) ≤ a0_0 ∧ Aside0 (Kd.R k52 52 wr w2.heap.size (fun k => k ≠ gP) (.slice (some ⟨gB, 0, none⟩) a0_0.toNat cap) (KW.part z52 (king_Play.first a0_0 l1) a0_0.toNat j)) ∧ Aside0 (wr.heap[gP]? = some (.cells #[.int .i64 a0_0, .int .i64 a0_1, .int .i64 a0_2, .int .i64 a0_3, .int .i64 a0_4, .int .i64 a0_5, .int .i64 a0_6, .int .i64 a0_7, .int .i64 a0_8, .int .i64 a0_9, .slice A0_10 l0_10.length c0_10, .slice (some ⟨gB, 0, none⟩) a0_0.toNat cap, .slice A2 l2.length c2, .nilFunc] 84 (0, 0))) ∧ Aside0 (Below w2.heap.size w2 wr)) (fun i _ => (a0_0 - intOf i).toNat)
          case atStart => exact ⟨0, rfl, by omega, ⟨by rw [KW.part_zero]; exact m0.out⟩, m1, m2⟩
          case round =>
            clear m0 m1 m2 KC4 KL4 HB4 q0
            obtain ⟨j, rfl, hj, HRb, HBK, HBl⟩ := hrel
            by_cases hlt : (j : Int) < a0_0
            · have hltb : decide ((j : Int) < a0_0) = true := decide_eq_true hlt
              have hjn : j < a0_0.toNat := by omega
              have hj0 : 0 ≤ (j : Int) := by omega
              have hjl : (j : Int) < (l1.length : Int) := by omega
              have hjm : (j : Int) < max a0_0 0 := by omega
              obtain ⟨ad, ea, hy0⟩ := Kd.at_int (Kd.C_below HR1.out (below_step HB2.out HBl.out)) (j : Int) hj0 hjl
              subst ea
              rw [Int.toNat_natCast] at hy0
              have hq11 : wr.cell? ⟨gP, 11, none⟩ = some (.slice (some ⟨gB, 0, none⟩) a0_0.toNat cap) := (blk_cell HBK.out 11).trans rfl
              have hyd : (king_Play.first a0_0 l1).getD j z52 = king_Play.start (rd l1 (j : Int)) := KW.getD_range _ z52 hjn
              have hst : king_Start.f (rd l1 (j : Int)) = some ((king_Play.start (rd l1 (j : Int))).f0, (king_Play.start (rd l1 (j : Int))).f1) := king_Play.start_at _
              generalize king_Play.start (rd l1 (j : Int)) = y at hyd hst
              have HYd := Aside0.mk hyd
              have HSt := Aside0.mk hst
              clear hyd hst
              go_wp2
              refine start_ (n := 10) (S := fun w' => w'.cell? ⟨gP, 11, none⟩ = some (.slice (some ⟨gB, 0, none⟩) a0_0.toNat cap) ∧ w'.cell? (ad.add j) = some (.int .i64 (rd l1 (j : Int)))) (ds := [9]) #[false, false, false, false, false, false, false, false, false, false] (by kernel_rfl) rfl rfl ⟨hq11, hy0⟩ (fun hHeld => ?_)
              refine pure_ (i := 0) (N := some 29) (v := ?_) (a' := ?_) #[true, false, false, false, false, false, false, false, false, false] rfl rfl (by kernel_rfl) (fun _ _ _ h => h) (Or.inl ⟨by rfl, ?_⟩) ?_ ?_
              rotate_left
              · intro w'
                go_simp
                with_reducible rfl
              rotate_left
              · simp only [Act.put, List.setIfInBounds_toArray, List.set_cons_zero, List.set_cons_succ, i64_w, i32_w]
                rfl
              refine pure_ (i := 2) (N := some 31) (v := ?_) (a' := ?_) #[true, false, true, false, false, false, false, false, false, false] rfl rfl (by kernel_rfl) (fun _ _ _ h => h) (Or.inl ⟨by rfl, ?_⟩) ?_ ?_
              rotate_left
              · intro w'
                go_simp
                with_reducible rfl
              rotate_left
              · simp only [Act.put, List.setIfInBounds_toArray, List.set_cons_zero, List.set_cons_succ, i64_w, i32_w]
                rfl
              refine pure_ (i := 3) (N := some 32) (v := ?_) (a' := ?_) #[true, false, true, true, false, false, false, false, false, false] rfl rfl (by kernel_rfl) (fun _ _ _ h => h) (Or.inl ⟨by rfl, ?_⟩) ?_ ?_
              rotate_left
              · intro w'
                go_simp
                with_reducible rfl
              rotate_left
              · simp only [Act.put, List.setIfInBounds_toArray, List.set_cons_zero, List.set_cons_succ, i64_w, i32_w]
                rfl
              refine pure_ (i := 4) (N := some 33) (v := ?_) (a' := ?_) #[true, false, true, true, true, false, false, false, false, false] rfl rfl (by kernel_rfl) (fun _ _ _ h => h) (Or.inl ⟨by rfl, ?_⟩) ?_ ?_
              rotate_left
              · intro w'
                go_simp
                with_reducible rfl
              rotate_left
              · simp only [Act.put, List.setIfInBounds_toArray, List.set_cons_zero, List.set_cons_succ, i64_w, i32_w]
                rfl
              refine pure_ (i := 5) (N := some 34) (v := ?_) (a' := ?_) #[true, false, true, true, true, true, false, false, false, false] rfl rfl (by kernel_rfl) (fun _ _ _ h => h) (Or.inl ⟨by rfl, ?_⟩) ?_ ?_
              rotate_left
              · intro w'
                go_simp
                with_reducible rfl
              rotate_left
              · simp only [Act.put, List.setIfInBounds_toArray, List.set_cons_zero, List.set_cons_succ, i64_w, i32_w]
                rfl
              refine take_ (i := 1) (N := some 30) (v := ?_) (a' := ?_) #[true, true, true, true, true, true, false, false, false, false] rfl rfl (by kernel_rfl) (fun _ _ _ h => h) (Or.inl ⟨by rfl, ?_⟩) hHeld ?_ ?_
              rotate_left
              · rintro w' ⟨s0, s1⟩
                go_simp
                with_reducible rfl
              rotate_left
              · simp only [Act.put, List.setIfInBounds_toArray, List.set_cons_zero, List.set_cons_succ, i64_w, i32_w]
                rfl
              refine take_ (i := 6) (N := some 35) (v := ?_) (a' := ?_) #[true, true, true, true, true, true, true, false, false, false] rfl rfl (by kernel_rfl) (fun _ _ _ h => h) (Or.inl ⟨by rfl, ?_⟩) hHeld ?_ ?_
              rotate_left
              · rintro w' ⟨s0, s1⟩
                go_simp
                with_reducible rfl
              rotate_left
              · simp only [Act.put, List.setIfInBounds_toArray, List.set_cons_zero, List.set_cons_succ, i64_w, i32_w]
                rfl
              refine one_ (i := 7) (N := some 36) #[true, true, true, true, true, true, true, true, false, false] rfl rfl (by kernel_rfl) (by decide) (fun K hK => ?_)
              refine goes_ Try.func46 (by kernel_rfl) rfl #[.int .i64 (rd l1 (j : Int))] (by rfl) rfl rfl (by simp only [List.map_toArray, List.map_cons, List.map_nil]; rfl) ?_
              with_reducible refine (king_Start.calls _ y.f0 y.f1 _ HSt.out).mono ?_
              rintro e' w6 ⟨rfl, hb⟩
              refine ⟨_, rfl, ?_⟩
              have HRb6 := Aside0.mk (Kd.R_below (Kd.R_drew HRb.out) hb)
              have HBK6 := Aside0.mk (blk_below (blk_drew HBK.out) hb)
              have HBl6 := Aside0.mk (below_step (below_drew1 HBl.out) hb)
              have HY6 : w6.cell? (ad.add j) = some (.int .i64 (rd l1 (j : Int))) := pw_cell_below hb hy0
              have HZ6 : w6.cell? ⟨gP, 11, none⟩ = some (.slice (some ⟨gB, 0, none⟩) a0_0.toNat cap) := (blk_cell HBK6.out 11).trans rfl
              clear hb
              obtain ⟨ce, hcl, hM, hcc, hfr⟩ := Kd.R_elem HRb6.out z52 (j : Int) (by omega) (by omega)
              obtain rfl := k52_openM hM
              rw [Int.toNat_natCast] at hcc hfr
              have hx0 : w6.cell? ⟨gB, j * 2, none⟩ = some _ := hcc 0 _ rfl
              have hx1 : w6.cell? ⟨gB, j * 2 + 1, none⟩ = some _ := hcc 1 _ rfl
              have hf0 : w6.frozen? ⟨gB, j * 2, none⟩ = false := hfr 0
              have hf1 : w6.frozen? ⟨gB, j * 2 + 1, none⟩ = false := hfr 1
              refine hK.out _ _ ⟨HZ6, HY6⟩ (fun hHeld => ?_)
              clear hK K
              refine norm_ (a' := ?_) ?_ ?_
              rotate_left
              · show Act.put _ (some 36) _ = _
                simp only [Act.put, List.setIfInBounds_toArray, List.set_cons_zero, List.set_cons_succ, i64_w, i32_w]
                rfl
              refine pure_ (i := 8) (N := some 37) (v := ?_) (a' := ?_) #[true, true, true, true, true, true, true, true, true, false] rfl rfl (by kernel_rfl) (fun _ _ _ h => h) (Or.inl ⟨by rfl, ?_⟩) ?_ ?_
              rotate_left
              · intro w'
                go_simp
                with_reducible rfl
              rotate_left
              · simp only [Act.put, List.setIfInBounds_toArray, List.set_cons_zero, List.set_cons_succ, i64_w, i32_w]
                rfl
              refine last_ (i := 9) (N := none) #[true, true, true, true, true, true, true, true, true, true] rfl rfl (by kernel_rfl) (by decide) (fun K hK => ?_)
              refine skip_ (w1 := ?_) (by rfl) rfl ?_ ?_
              rotate_left
              · go_simp
                rfl
              refine hK.out _ _ ?_
              clear hK K
              refine done_ (by kernel_rfl) ?_
              have HP := Aside0.mk ((Kd.R_seg HRb6.out (j : Int) (by omega) (by omega) (seg := [.int .i64 y.f0, .bool y.f1]) (j := 0) hcl (by rw [Int.toNat_natCast]; exact hcc) (show 2 ≤ 2 from by decide) (x' := (⟨y.f0, y.f1⟩ : S52)) (k52_mkM _ _ _ (⟨y.f0, y.f1⟩ : S52)) (fun _ hk => hk)).1)
              rw [Int.toNat_natCast] at HP
              have n0_ := Aside0.mk (show Kd.R k52 52 ((w6.setCell ⟨gB, j * 2, none⟩ (.int .i64 y.f0)).setCell ⟨gB, j * 2 + 1, none⟩ (.bool y.f1)) w2.heap.size (fun k => k ≠ gP) (.slice (some ⟨gB, 0, none⟩) a0_0.toNat cap) ((KW.part z52 (king_Play.first a0_0 l1) a0_0.toNat j).set j (⟨y.f0, y.f1⟩ : S52)) from HP.out)
              have n1_ := Aside0.mk (blk_far (p := ⟨gB, j * 2 + 1, none⟩) (blk_far (p := ⟨gB, j * 2, none⟩) HBK6.out hne (.int .i64 y.f0)) hne (.bool y.f1))
              have n2_ := Aside0.mk ((HBl6.out.setCell (p := ⟨gB, j * 2, none⟩) gb1 (.int .i64 y.f0)).setCell (p := ⟨gB, j * 2 + 1, none⟩) gb1 (.bool y.f1))
              clear HP hM hcl hcc hfr hx0 hx1 hf0 hf1
              generalize ((w6.setCell ⟨gB, j * 2, none⟩ (.int .i64 y.f0)).setCell ⟨gB, j * 2 + 1, none⟩ (.bool y.f1)) = w7 at n0_ n1_ n2_ ⊢
              go_wp2
              go_roundw
              case rel => exact ⟨j + 1, by go_num, by omega, ⟨by rw [← KW.part_put (z := z52) (V := (king_Play.first a0_0 l1)) (x := (⟨y.f0, y.f1⟩ : S52)) HFl.out hjn HYd.out]; exact n0_.out⟩, n1_, n2_⟩
              case measure => simp [intOf]; omega
            · have hltb : decide ((j : Int) < a0_0) = false := decide_eq_false hlt
              have hjq : (j : Int) = a0_0 := by omega
              have HE := Aside0.mk (king_Play.first_part a0_0 l1 j (by omega) (by omega))
              rw [HE.out] at HRb
              have hz13 : wr.cell? ⟨gP, 13, none⟩ = some .nilFunc := (blk_cell HBK.out 13).trans rfl
              have hf13 := blk_frozen HBK.out 13
              have HB8 := Aside0.mk (HBl.out.setCell (p := ⟨gP, 13, none⟩) gb2 (.func (.func 84) #[] #[.pointer (some ⟨w.heap.size + 1, 0, none⟩), .pointer (some ⟨w.heap.size, 0, none⟩)]))
              have HK8 := Aside0.mk (blk_put HBK.out 13 (.func (.func 84) #[] #[.pointer (some ⟨w.heap.size + 1, 0, none⟩), .pointer (some ⟨w.heap.size, 0, none⟩)]) rfl)
              have HR8 := Aside0.mk (Kd.R_far (p := ⟨gP, 13, none⟩) HRb.out (fun _ hk => hk) (.func (.func 84) #[] #[.pointer (some ⟨w.heap.size + 1, 0, none⟩), .pointer (some ⟨w.heap.size, 0, none⟩)]))
              have p0 : (wr.setCell ⟨gP, 13, none⟩ (.func (.func 84) #[] #[.pointer (some ⟨w.heap.size + 1, 0, none⟩), .pointer (some ⟨w.heap.size, 0, none⟩)])).cell? ⟨w.heap.size, 0, none⟩ = some (.int .i64 a0_0) := (blk_cell (blk_below KC.out HB8.out) 0).trans rfl
              have p1 : (wr.setCell ⟨gP, 13, none⟩ (.func (.func 84) #[] #[.pointer (some ⟨w.heap.size + 1, 0, none⟩), .pointer (some ⟨w.heap.size, 0, none⟩)])).cell? ⟨w.heap.size, 1, none⟩ = some (.int .i64 a0_1) := (blk_cell (blk_below KC.out HB8.out) 1).trans rfl
              have p2 : (wr.setCell ⟨gP, 13, none⟩ (.func (.func 84) #[] #[.pointer (some ⟨w.heap.size + 1, 0, none⟩), .pointer (some ⟨w.heap.size, 0, none⟩)])).cell? ⟨w.heap.size, 2, none⟩ = some (.int .i64 a0_2) := (blk_cell (blk_below KC.out HB8.out) 2).trans rfl
              have p3 : (wr.setCell ⟨gP, 13, none⟩ (.func (.func 84) #[] #[.pointer (some ⟨w.heap.size + 1, 0, none⟩), .pointer (some ⟨w.heap.size, 0, none⟩)])).cell? ⟨w.heap.size, 3, none⟩ = some (.int .i64 a0_3) := (blk_cell (blk_below KC.out HB8.out) 3).trans rfl
              have p4 : (wr.setCell ⟨gP, 13, none⟩ (.func (.func 84) #[] #[.pointer (some ⟨w.heap.size + 1, 0, none⟩), .pointer (some ⟨w.heap.size, 0, none⟩)])).cell? ⟨w.heap.size, 4, none⟩ = some (.int .i64 a0_4) := (blk_cell (blk_below KC.out HB8.out) 4).trans rfl
              have p5 : (wr.setCell ⟨gP, 13, none⟩ (.func (.func 84) #[] #[.pointer (some ⟨w.heap.size + 1, 0, none⟩), .pointer (some ⟨w.heap.size, 0, none⟩)])).cell? ⟨w.heap.size, 5, none⟩ = some (.int .i64 a0_5) := (blk_cell (blk_below KC.out HB8.out) 5).trans rfl
              have p6 : (wr.setCell ⟨gP, 13, none⟩ (.func (.func 84) #[] #[.pointer (some ⟨w.heap.size + 1, 0, none⟩), .pointer (some ⟨w.heap.size, 0, none⟩)])).cell? ⟨w.heap.size, 6, none⟩ = some (.int .i64 a0_6) := (blk_cell (blk_below KC.out HB8.out) 6).trans rfl
              have p7 : (wr.setCell ⟨gP, 13, none⟩ (.func (.func 84) #[] #[.pointer (some ⟨w.heap.size + 1, 0, none⟩), .pointer (some ⟨w.heap.size, 0, none⟩)])).cell? ⟨w.heap.size, 7, none⟩ = some (.int .i64 a0_7) := (blk_cell (blk_below KC.out HB8.out) 7).trans rfl
              have p8 : (wr.setCell ⟨gP, 13, none⟩ (.func (.func 84) #[] #[.pointer (some ⟨w.heap.size + 1, 0, none⟩), .pointer (some ⟨w.heap.size, 0, none⟩)])).cell? ⟨w.heap.size, 8, none⟩ = some (.int .i64 a0_8) := (blk_cell (blk_below KC.out HB8.out) 8).trans rfl
              have p9 : (wr.setCell ⟨gP, 13, none⟩ (.func (.func 84) #[] #[.pointer (some ⟨w.heap.size + 1, 0, none⟩), .pointer (some ⟨w.heap.size, 0, none⟩)])).cell? ⟨w.heap.size, 9, none⟩ = some (.int .i64 a0_9) := (blk_cell (blk_below KC.out HB8.out) 9).trans rfl
              have p10 : (wr.setCell ⟨gP, 13, none⟩ (.func (.func 84) #[] #[.pointer (some ⟨w.heap.size + 1, 0, none⟩), .pointer (some ⟨w.heap.size, 0, none⟩)])).cell? ⟨w.heap.size, 10, none⟩ = some (.slice A0_10 l0_10.length c0_10) := (blk_cell (blk_below KC.out HB8.out) 10).trans rfl
              go_wp2_with (first | (go_at_call 85; (with_reducible refine (conf_Rounds.calls k a0_0 a0_1 a0_2 a0_3 a0_4 a0_5 a0_6 a0_7 a0_8 a0_9 _ _ l0_10 r_ _ ?side1 ?side2 HRD.out).mono ?_); (case side1 => exact Kd.C_below HR.out (below_step HB2.out HB8.out)); (case side2 => exact HC.out); rintro e' w9 ⟨rfl, hb⟩; have B9 := Aside0.mk (below_step HB8.out hb); have R9 := Aside0.mk (Kd.R_below HR8.out hb); have HMm : Aside0 (king_play_votes.Mem w w9 gP (w.heap.size + 1) w.heap.size (⟨a0_0, a0_1, a0_2, a0_3, a0_4, a0_5, a0_6, a0_7, a0_8, a0_9, l0_10⟩ : S24) l2 l3 (king_Play.first a0_0 l1) A0_10 (some ⟨gB, 0, none⟩) A2 A3 c0_10 cap c2 c3) := ⟨{ blk := by simp only [king_play_votes.cells, HFl.out]; exact blk_below HK8.out hb, lies := (blk_cell (blk_below KL.out B9.out) 0).trans rfl, conf := (blk_cell (blk_below KC.out B9.out) 0).trans rfl, bel := below_step HB2.out B9.out, new := by have := HSZ.out; omega, nl := by have := HSZ.out; omega, nc := by have := HSZ.out; omega, rt0 := HR.out, rf0 := HR2.out, rl0 := HR3.out, rb := (Kd.R_reads' R9.out).2.2, ht := HC.out, hb := by rw [HFl.out]; exact (Kd.R_reads' R9.out).2.1, hf := HC2.out, hl := HC3.out }⟩; clear hb p0 p1 p2 p3 p4 p5 p6 p7 p8 p9 p10 hz13 hf13) | (go_at_call 87; (with_reducible refine (king_play_ends.calls k gP (w.heap.size + 1) w.heap.size (⟨a0_0, a0_1, a0_2, a0_3, a0_4, a0_5, a0_6, a0_7, a0_8, a0_9, l0_10⟩ : S24) l2 l3 B A0_10 AB A2 A3 c0_10 cb c2 c3 w _ HM.out ⟨by omega, by omega⟩ hd3 hd4).mono ?_); rintro e' w11 ⟨v11, rfl, ho, hb⟩; have HOe := Aside0.mk ho; have HBe := Aside0.mk hb; clear ho hb))
              go_loopw [43] (fun v43 wq => ∃ (x : Nat) (B : List S52) (AB : Option Addr) (cb : Nat), v43 = .int .i64 x ∧ (x : Int) ≤ r_ ∧ Aside0 (king_Play.run k (⟨a0_0, a0_1, a0_2, a0_3, a0_4, a0_5, a0_6, a0_7, a0_8, a0_9, l0_10⟩ : S24) l2 l3 (r_.toNat - x) (x : Int) B = some Bf) ∧ Aside0 (king_play_votes.Mem w wq gP (w.heap.size + 1) w.heap.size (⟨a0_0, a0_1, a0_2, a0_3, a0_4, a0_5, a0_6, a0_7, a0_8, a0_9, l0_10⟩ : S24) l2 l3 B A0_10 AB A2 A3 c0_10 cb c2 c3) ∧ Aside0 (B.length = a0_0.toNat)) (fun i _ => (r_ - intOf i).toNat)
              case atStart => exact ⟨0, (king_Play.first a0_0 l1), _, cap, rfl, by have := D2.out; omega, ⟨HRun.out⟩, HMm, HFl⟩
              case round =>
                clear HMm
                obtain ⟨x, B, AB, cb, rfl, hx, HRn, HM, HBl_⟩ := hrel
                by_cases hxl : (x : Int) < r_
                · have hxlb : decide ((x : Int) < r_) = true := decide_eq_true hxl
                  obtain ⟨q, hq⟩ : ∃ q, r_.toNat - x = q + 1 := ⟨r_.toNat - x - 1, by omega⟩
                  have hq2 : q = r_.toNat - (x + 1) := by omega
                  have h := HRn.out
                  rw [hq] at h
                  unfold king_Play.run at h
                  obtain ⟨B2, hx2, h⟩ := Option.bind_eq_some_iff.mp h
                  have HX2 := Aside0.mk hx2
                  rw [hq2] at h
                  have HRn2 := Aside0.mk h
                  have hd1 := D1.out.1
                  have hd2 := D1.out.2.1
                  have hd3 := D1.out.2.2.1
                  have hd4 := D1.out.2.2.2
                  have he1 := D2.out.2.1
                  have he2 := D2.out.2.2
                  clear h hx2 hq hq2 HRn
                  go_wp2_with (go_at_call 86; (with_reducible refine (king_play_exchange.calls k gP (w.heap.size + 1) w.heap.size (⟨a0_0, a0_1, a0_2, a0_3, a0_4, a0_5, a0_6, a0_7, a0_8, a0_9, l0_10⟩ : S24) l2 l3 B B2 A0_10 AB A2 A3 c0_10 cb c2 c3 (x : Int) w _ HM.out ⟨hd1, hd2⟩ HBl_.out hd3 hd4 ⟨by omega, by omega⟩ (by show (x : Int) / 3 < a0_0; omega) HX2.out).mono ?_); rintro e' w10 ⟨vv, AB2, cb2, rfl, hm2, hb2⟩; have HM2 := Aside0.mk hm2; have HB2_ := Aside0.mk hb2; clear hm2 hb2)
                  go_roundw
                  case rel => exact ⟨x + 1, B2, AB2, cb2, by go_num, by omega, HRn2, HM2, HB2_⟩
                  case measure => simp [intOf]; omega
                · have hxlb : decide ((x : Int) < r_) = false := decide_eq_false hxl
                  have hq0 : r_.toNat - x = 0 := by omega
                  have h := HRn.out
                  rw [hq0] at h
                  obtain rfl := Option.some.inj h
                  have hd1 := D1.out.1
                  have hd2 := D1.out.2.1
                  have hd3 := D1.out.2.2.1
                  have hd4 := D1.out.2.2.2
                  have hBm := HBl_.out
                  clear h hq0 HRn
                  go_wp2_with (first | (go_at_call 85; (with_reducible refine (conf_Rounds.calls k a0_0 a0_1 a0_2 a0_3 a0_4 a0_5 a0_6 a0_7 a0_8 a0_9 _ _ l0_10 r_ _ ?side1 ?side2 HRD.out).mono ?_); (case side1 => exact Kd.C_below HR.out (below_step HB2.out HB8.out)); (case side2 => exact HC.out); rintro e' w9 ⟨rfl, hb⟩; have B9 := Aside0.mk (below_step HB8.out hb); have R9 := Aside0.mk (Kd.R_below HR8.out hb); have HMm : Aside0 (king_play_votes.Mem w w9 gP (w.heap.size + 1) w.heap.size (⟨a0_0, a0_1, a0_2, a0_3, a0_4, a0_5, a0_6, a0_7, a0_8, a0_9, l0_10⟩ : S24) l2 l3 (king_Play.first a0_0 l1) A0_10 (some ⟨gB, 0, none⟩) A2 A3 c0_10 cap c2 c3) := ⟨{ blk := by simp only [king_play_votes.cells, HFl.out]; exact blk_below HK8.out hb, lies := (blk_cell (blk_below KL.out B9.out) 0).trans rfl, conf := (blk_cell (blk_below KC.out B9.out) 0).trans rfl, bel := below_step HB2.out B9.out, new := by have := HSZ.out; omega, nl := by have := HSZ.out; omega, nc := by have := HSZ.out; omega, rt0 := HR.out, rf0 := HR2.out, rl0 := HR3.out, rb := (Kd.R_reads' R9.out).2.2, ht := HC.out, hb := by rw [HFl.out]; exact (Kd.R_reads' R9.out).2.1, hf := HC2.out, hl := HC3.out }⟩; clear hb p0 p1 p2 p3 p4 p5 p6 p7 p8 p9 p10 hz13 hf13) | (go_at_call 87; (with_reducible refine (king_play_ends.calls k gP (w.heap.size + 1) w.heap.size (⟨a0_0, a0_1, a0_2, a0_3, a0_4, a0_5, a0_6, a0_7, a0_8, a0_9, l0_10⟩ : S24) l2 l3 B A0_10 AB A2 A3 c0_10 cb c2 c3 w _ HM.out ⟨by omega, by omega⟩ hd3 hd4).mono ?_); rintro e' w11 ⟨v11, rfl, ho, hb⟩; have HOe := Aside0.mk ho; have HBe := Aside0.mk hb; clear ho hb))
                  go_ret
                  exact ⟨_, rfl, Kd.R_lower HOe.out HM.out.bel.size, below_step HM.out.bel HBe.out⟩
      · rw [if_neg d2] at h
        cases h
    · rw [if_neg d1] at h
      cases h
  · rw [if_neg d0] at h
    obtain rfl := Option.some.inj h
    have d0b : (e != 0) = true := by simpa using d0
    clear h d0
    go_enter Try.func55, Try.ntmps55
    go_wp2_with (first | (go_at_call 59; (with_reducible refine (conf_Plain.calls k a0_0 a0_1 a0_2 a0_3 a0_4 a0_5 a0_6 a0_7 a0_8 a0_9 _ _ l0_10 e _ ?side1 ?side2 HP.out).mono ?_); (case side1 => exact Kd.C_alloc (Kd.C_alloc HR.out _) _); (case side2 => exact HC.out); rintro e' w2 ⟨rfl, hb⟩; have KC := Aside0.mk (blk_below (blk_alloc (blk_new w _) _) hb); have KL := Aside0.mk (blk_below (blk_new (w.alloc (.cells #[.int .i64 a0_0, .int .i64 a0_1, .int .i64 a0_2, .int .i64 a0_3, .int .i64 a0_4, .int .i64 a0_5, .int .i64 a0_6, .int .i64 a0_7, .int .i64 a0_8, .int .i64 a0_9, .slice A0_10 l0_10.length c0_10] 24)) (.cells #[.slice A3 l3.length c3] 22)) hb); have HB2 := Aside0.mk (below_then (below_alloc (below_alloc (Below.refl _ w) _) _) (by simp; omega) hb); have HSZ := Aside0.mk (show w.heap.size + 2 ≤ w2.heap.size by have := hb.size; simp at this; omega); clear hb; simp only [king_Play.size_alloc] at KL; have q0 : w2.cell? ⟨w.heap.size, 0, none⟩ = some (.int .i64 a0_0) := (blk_cell KC.out 0).trans rfl; have q1 : w2.cell? ⟨w.heap.size, 1, none⟩ = some (.int .i64 a0_1) := (blk_cell KC.out 1).trans rfl; have q2 : w2.cell? ⟨w.heap.size, 2, none⟩ = some (.int .i64 a0_2) := (blk_cell KC.out 2).trans rfl; have q3 : w2.cell? ⟨w.heap.size, 3, none⟩ = some (.int .i64 a0_3) := (blk_cell KC.out 3).trans rfl; have q4 : w2.cell? ⟨w.heap.size, 4, none⟩ = some (.int .i64 a0_4) := (blk_cell KC.out 4).trans rfl; have q5 : w2.cell? ⟨w.heap.size, 5, none⟩ = some (.int .i64 a0_5) := (blk_cell KC.out 5).trans rfl; have q6 : w2.cell? ⟨w.heap.size, 6, none⟩ = some (.int .i64 a0_6) := (blk_cell KC.out 6).trans rfl; have q7 : w2.cell? ⟨w.heap.size, 7, none⟩ = some (.int .i64 a0_7) := (blk_cell KC.out 7).trans rfl; have q8 : w2.cell? ⟨w.heap.size, 8, none⟩ = some (.int .i64 a0_8) := (blk_cell KC.out 8).trans rfl; have q9 : w2.cell? ⟨w.heap.size, 9, none⟩ = some (.int .i64 a0_9) := (blk_cell KC.out 9).trans rfl; have q10 : w2.cell? ⟨w.heap.size, 10, none⟩ = some (.slice A0_10 l0_10.length c0_10) := (blk_cell KC.out 10).trans rfl))
    go_ret
    exact ⟨_, rfl, Kd.R_nil _ _ _ _ _, HB2.out⟩
end Go.Proofs.Ytfannnojhkkaiaa.X
