import Derived.RangeFuncNested
import Derived.RangeFuncBound
import Derived.RangeFuncCalls
import Derived.RangeFuncLeaves
import Derived.Shelf.Abstract
import Derived.Shelf.RegionOpen
import Derived.WalkKit
import Derived.OwnWalkIn
import Derived.TacticsInMore
import Derived.LoopNIn
import Derived.LoopIn
import Derived.Maps.AppendAt
import Derived.Test.YthblnnboeikgcaaYBeatSettles31
import Derived.Test.YthblnnboeikgcaaYBeatSettles34
set_option maxHeartbeats 8000000
set_option maxRecDepth 100000
namespace Go.Proofs.Ythblnnboeikgcaa.B
open Go.RowKit Go.Proofs.YthblnnboeikgcaaW.PrintWords Go.Proofs.YthblnnboeikgcaaW.PrintLast Go.Proofs.YthblnnboeikgcaaW.PrintMore
attribute [local go_sem] max2_int min2_int max_two min_two max_three min_three max_four min_four   -- for this text's walks alone
set_option linter.unusedVariables false
set_option linter.unusedSimpArgs false
attribute [local go_sem] Oper.semAt_some
def pipe_Tell.ok (d R : Int) (v r : ByteArray) : Prop := 0 ≤ R ∧ R ≤ 15 ∧ (R = 0 ∨ (0 ≤ d ∧ d ≤ 4)) ∧ r.size ≤ 1000000 ∧ ∀ j, j < R.toNat → (j : Int) * d < (v.size : Int)
instance (d R : Int) (v r : ByteArray) : Decidable (pipe_Tell.ok d R v r) := by unfold pipe_Tell.ok; infer_instance
def pipe_Tell.told (d : Int) (v : ByteArray) (m : Nat) : List Int := (List.range m).map (fun (j : Nat) => bt v ((j : Int) * d))
def pipe_Tell.f (k : Nat) (a0_0 a0_1 a0_2 a0_3 a0_4 a0_5 a0_6 a0_7 a0_8 a0_9 : Int) (l0_10 : List Int) (a1 : ByteArray) : Option ByteArray := (pipe_sound.f k a0_0 a0_1 a0_2 a0_3 a0_4 a0_5 a0_6 a0_7 a0_8 a0_9 l0_10 a1).bind fun r => (vec_Values.f r).bind fun v => (conf_Rounds.f k a0_0 a0_1 a0_2 a0_3 a0_4 a0_5 a0_6 a0_7 a0_8 a0_9 l0_10).bind fun R => if pipe_Tell.ok a0_2 R v r then some (strOfNums (pipe_Tell.told a0_2 v R.toNat)) else none
theorem pipe_Tell.calls (k : Nat) (a0_0 a0_1 a0_2 a0_3 a0_4 a0_5 a0_6 a0_7 a0_8 a0_9 : Int) (A0_10 : Option Addr) (c0_10 : Nat) (l0_10 : List Int) (a1 z : ByteArray) (w : World) (hr0_10 : Kd.C (Kd.int .i64) w A0_10 l0_10.length l0_10) (hc0_10 : l0_10.length ≤ c0_10) (h : pipe_Tell.f k a0_0 a0_1 a0_2 a0_3 a0_4 a0_5 a0_6 a0_7 a0_8 a0_9 l0_10 a1 = some z) :
    Calls Try.prog 31 #[.agg #[.int .i64 a0_0, .int .i64 a0_1, .int .i64 a0_2, .int .i64 a0_3, .int .i64 a0_4, .int .i64 a0_5, .int .i64 a0_6, .int .i64 a0_7, .int .i64 a0_8, .int .i64 a0_9, .slice A0_10 l0_10.length c0_10], .string a1] w fun e w' => e = .returned (.string z) ∧ Below w.heap.size w w' := by
  have HR := Sd.mk hr0_10
  have HC := Sd.mk hc0_10
  clear hr0_10 hc0_10
  unfold pipe_Tell.f at h
  obtain ⟨r, hr, h⟩ := Option.bind_eq_some_iff.mp h
  obtain ⟨v, hv, h⟩ := Option.bind_eq_some_iff.mp h
  obtain ⟨R, hR, h⟩ := Option.bind_eq_some_iff.mp h
  have HSN := Sd.mk hr
  have HV := Sd.mk hv
  have HRN := Sd.mk hR
  clear hr hv hR
  by_cases d1 : pipe_Tell.ok a0_2 R v r
  case neg => rw [if_neg d1] at h; cases h
  rw [if_pos d1] at h
  obtain rfl := Option.some.inj h
  have HOK := Sd.mk d1
  have HSZ := Sd.mk d1.2.2.2.1
  obtain ⟨m, rfl⟩ := Int.eq_ofNat_of_zero_le d1.1
  have HM : Sd (m ≤ 15) := ⟨by have := d1.2.1; omega⟩
  have HD : Sd (m = 0 ∨ (0 ≤ a0_2 ∧ a0_2 ≤ 4)) := ⟨d1.2.2.1.imp (by omega) id⟩
  have HX : Sd (∀ x : Fin m, 0 ≤ (x.val : Int) * a0_2 ∧ (x.val : Int) * a0_2 < (v.size : Int)) := ⟨fun x => ⟨Int.mul_nonneg (by omega) (HD.out.resolve_left (by have := x.isLt; omega)).1, d1.2.2.2.2 x.val (by have := x.isLt; omega)⟩⟩
  clear h d1
  refine (callsIn_wide (n := 3)).1 (callsIn_of_wp_marks Try.func31 rfl trivial (wpIn_wide.2 ?_) rfl)
  simp only [Try.ntmps31, List.size_toArray, List.length_cons, List.length_nil, Nat.reduceAdd, Nat.reduceSub, Array.replicate_succ, Array.replicate_zero, List.push_toArray, List.append_toArray, List.nil_append, List.cons_append]
  go_wp2_with (first | (go_at_call 84; (with_reducible refine (pipe_sound.calls k a0_0 a0_1 a0_2 a0_3 a0_4 a0_5 a0_6 a0_7 a0_8 a0_9 _ _ l0_10 a1 r _ ?side1 ?side2 HSN.out).mono ?_); (case side1 => exact Kd.C_alloc HR.out _); (case side2 => exact HC.out); rintro e' w1 ⟨v0, rfl, hrow, hb⟩; obtain ⟨g, cap, cs, fz, e0, hg, hcs, hfz, hcap, hat⟩ := hrow; subst e0; have kcv := pipe_sound.conv hcs hat HSZ.out cap; have K1 := Sd.mk (blk_below (blk_new w _) hb); have HB1 := Sd.mk (below_then (below_alloc (Below.refl _ w) _) (by simp) hb); clear hb hg hcs hfz hcap hat) | (go_at_call 56; (with_reducible refine (vec_Values.calls r v _ HV.out).mono ?_); rintro e' w2 ⟨rfl, hb⟩; have K2 := Sd.mk (blk_below K1.out hb); have HB2 := Sd.mk (below_then HB1.out HB1.out.size hb); clear hb; clear kcv; have hlt0 : w.heap.size < w2.heap.size := blk_lt K2.out; have hne0 : ¬ w.heap.size = w2.heap.size := Nat.ne_of_lt hlt0; have hne1 : ¬ w2.heap.size = w.heap.size := Nat.ne_of_gt hlt0; have ⟨q0, q1, q2, q3, q4, q5, q6, q7, q8, q9, q10⟩ := pipe_sound.cells K2.out) | (go_at_call 85; (with_reducible refine (plan_Ages.calls k a0_0 a0_1 a0_2 a0_3 a0_4 a0_5 a0_6 a0_7 a0_8 a0_9 _ _ l0_10 _ _ ?side1 ?side2 HRN.out).mono ?_); (case side1 => exact Kd.C_below HR.out ((HB2.out.alloc HB2.out.size _).alloc (by have := HB2.out.size; simp; omega) _)); (case side2 => exact HC.out); rintro e' w3 ⟨b1, b2, rfl, hb1, hb2, hl1, hl2, hc1, hc2, hb⟩; have KV : Sd (Boxed w3 w2.heap.size 9 (.string v)) := ⟨blk_below (blk_alloc (blk_new w2 _) _) hb⟩; have KO : Sd (Boxed w3 (w2.heap.size + 1) 67 (.slice none 0 0)) := ⟨by have h9 := blk_new (w2.alloc (.cells #[.string v] 9)) (.cells #[.slice none 0 0] 67); rw [World.size_alloc] at h9; exact blk_below h9 hb⟩; have HB3 := Sd.mk (below_then ((HB2.out.alloc HB2.out.size _).alloc (by have := HB2.out.size; simp; omega) _) (by have := HB2.out.size; simp; omega) hb); have HS3 : Sd (w2.heap.size + 2 ≤ w3.heap.size) := ⟨by have := hb.size; simpa using this⟩; have HL1 : Sd (w2.heap.size + 2 ≤ b1) := ⟨by simpa using hl1⟩; have HL2 : Sd (w2.heap.size + 2 ≤ b2) := ⟨by simpa using hl2⟩; clear hb hl1 hl2))
  refine (wpIn_wide (n := 3)).1 ?_
  refine wpIn_rangeFunc_ownG (F := Fence.wide) rfl (by decide : 1 ≤ 3) (gf := 128) (lb := #[.pointer (some ⟨b1, 0, none⟩), .pointer (some ⟨b2, 0, none⟩)]) rfl trivial (enters_of Try.func128 (by kernel_rfl) rfl)
    (plan_Ages.stops Fence.wide 2 trivial rfl (by decide) b1 b2 m a0_2 HM.out HD.out w3 hb1 hb2 hc1 hc2) plan_Ages.Kp.trans (plan_Ages.Kp.book hb1 hb2) (Below.refl _ _) (fun _ => rfl)
    (fun pre W => (∃ vv, Boxed W (w2.heap.size + 1) 67 vv ∧ W.ownsRow w3.heap.size 5 1 vv pre.length ((pre.map (fun x : Fin m => bt v ((x.val : Int) * a0_2))).map (Value.int .u8)) ∧ True) ∧ (Boxed W w2.heap.size 9 (.string v) ∧ Below w.heap.size w W ∧ w3.heap.size ≤ W.heap.size))
    (fun _ _ _ => False)
    (OwnFrom.and (Own.from (holdsRow_own w3.heap.size (w2.heap.size + 1) 67 5 1 (fun pre : List (Fin m) => pre.length) (fun pre => (pre.map (fun x : Fin m => bt v ((x.val : Int) * a0_2))).map (Value.int .u8)) (fun _ _ => True)) _) (OwnFrom.and (Own.from (boxed_own w2.heap.size 9 (fun _ => .string v)) _) (OwnFrom.and (ownFrom_below (Nat.le_refl _) HB3.out.size) (Ythblnnboeikgcaa.Round.ownFrom_size _ _))))
    (fun _ _ _ _ _ hs _ _ => hs)
    ⟨⟨_, KO.out, World.ownsRow_nil _ _ _ _, trivial⟩, KV.out, HB3.out, Nat.le_refl _⟩
    ?a1 ?assign ?body ?done ?stop
  case assign =>
    intro l x W K hK
    gi_wp2
    exact hK
  case body =>
    rintro l pre x W ⟨⟨vv, hv, hrow, -⟩, hbv, hB, hz⟩ hlt
    obtain ⟨A, c, rfl⟩ := Ythblnnboeikgcaa.Round.own_slice hrow
    have hx := HX.out x
    obtain ⟨hx0, hx1⟩ := hx
    have HRW := Sd.mk hrow
    have HBX := Sd.mk hv
    have HBV := Sd.mk hbv
    clear hrow hv hbv
    have hbt_ := bt_at v ((x.val : Int) * a0_2)
    have hva := HBX.out.cell
    have hvb := HBV.out.cell
    gi_wp2
    refine Ythblnnboeikgcaa.Round.start_in (m := 7) (S := fun w' => w'.cell? ⟨w2.heap.size + 1, 0, none⟩ = some (.slice A pre.length c) ∧ w'.cell? ⟨w2.heap.size, 0, none⟩ = some (.string v)) (ds := [5, 6]) #[false,false,false,false,false,false,false] (by kernel_rfl) (by rintro ⟨_, _, q⟩; exact q) (by kernel_rfl) rfl rfl ⟨hva, hvb⟩ (fun hHeld => ?_)
    refine pure_ (i := 2) (N := some 20) (v := ?_) (a' := ?_) #[false,false,true,false,false,false,false] rfl rfl (by kernel_rfl) (fun _ _ _ h => h) (Or.inl ⟨by rfl, ?_⟩) ?_ ?_
    rotate_left
    · intro w'
      go_simp
      with_reducible rfl
    rotate_left
    · simp only [Act.put, List.setIfInBounds_toArray, List.set_cons_zero, List.set_cons_succ, i64_w, i32_w]
      rfl
    refine take_ (i := 0) (N := some 18) (v := ?_) (a' := ?_) #[true,false,true,false,false,false,false] rfl rfl (by kernel_rfl) (fun _ _ _ h => h) (Or.inl ⟨by rfl, ?_⟩) hHeld ?_ ?_
    rotate_left
    · rintro w' ⟨s0, s1⟩
      go_simp
      with_reducible rfl
    rotate_left
    · simp only [Act.put, List.setIfInBounds_toArray, List.set_cons_zero, List.set_cons_succ, i64_w, i32_w]
      rfl
    refine take_ (i := 1) (N := some 19) (v := ?_) (a' := ?_) #[true,true,true,false,false,false,false] rfl rfl (by kernel_rfl) (fun _ _ _ h => h) (Or.inl ⟨by rfl, ?_⟩) hHeld ?_ ?_
    rotate_left
    · rintro w' ⟨s0, s1⟩
      go_simp
      with_reducible rfl
    rotate_left
    · simp only [Act.put, List.setIfInBounds_toArray, List.set_cons_zero, List.set_cons_succ, i64_w, i32_w]
      rfl
    refine take_ (i := 3) (N := some 21) (v := ?_) (a' := ?_) #[true,true,true,true,false,false,false] rfl rfl (by kernel_rfl) (fun _ _ _ h => h) (Or.inl ⟨by rfl, ?_⟩) hHeld ?_ ?_
    rotate_left
    · rintro w' ⟨s0, s1⟩
      go_simp
      with_reducible rfl
    rotate_left
    · simp only [Act.put, List.setIfInBounds_toArray, List.set_cons_zero, List.set_cons_succ, i64_w, i32_w]
      rfl
    refine one_ (i := 4) (N := some 22) #[true,true,true,true,true,false,false] rfl rfl (by kernel_rfl) (by decide) (fun K hK => ?_)
    refine value_ (w1 := ?_) (v := ?_) (by rfl) rfl ?_ ?_
    rotate_left 2
    · go_simp
      constructor
      · rfl
      · rfl
    refine hK.out _ _ ⟨by have hh := hHeld; exact pw_cell_below (below_alloc (Below.refl _ _) _) hh.1, by have hh := hHeld; exact pw_cell_below (below_alloc (Below.refl _ _) _) hh.2⟩ (fun hHeld => ?_)
    clear hK K
    refine norm_ (a' := ?_) ?_ ?_
    rotate_left
    · show Act.put _ (some 22) _ = _
      simp only [Act.put, List.setIfInBounds_toArray, List.set_cons_zero, List.set_cons_succ, i64_w, i32_w]
      rfl
    refine last_ (i := 5) (N := some 23) #[true,true,true,true,true,true,false] rfl rfl (by kernel_rfl) (by decide) (fun K hK => ?_)
    refine step_append_cells (w0 := W.drew) w3.heap.size (by rfl) (.tmp 18) (.tmp 22) 67 5 (.int .u8 0) 1 1 rfl Try.underlying67 info5 rfl (by decide) (by decide) _ _ _ [.int .u8 (bt v ((x.val : Int) * a0_2))] rfl rfl rfl (by simp [Value.oneCell']) (Ythblnnboeikgcaa.Round.own_drew HRW.out) (Below.refl _ _) hz (by have := HM.out; omega) ?_
    intro v1 w4 hown1 hb4 hg4 hat4
    obtain ⟨g', cap', rfl⟩ := ownsRow_succ hown1
    obtain ⟨hv1, hv2, hr2, hk2, hs2, hbl2⟩ := Ythblnnboeikgcaa.Round.put_ (Ythblnnboeikgcaa.Round.boxed_drew HBX.out) (by have := HS3.out; omega) hz (Ythblnnboeikgcaa.Round.own_drew HRW.out) hown1 hg4
    have hfz := hv1.frozen
    have hcl := hv1.cell
    refine hK.out _ _ ?_
    clear hK K
    refine norm_ (a' := ?_) ?_ ?_
    rotate_left
    · show Act.put _ (some 23) _ = _
      simp only [Act.put, List.setIfInBounds_toArray, List.set_cons_zero, List.set_cons_succ, i64_w, i32_w]
      rfl
    refine last_ (i := 6) (N := none) #[true,true,true,true,true,true,true] rfl rfl (by kernel_rfl) (by decide) (fun K hK => ?_)
    refine skip_ (w1 := ?_) (by rfl) rfl ?_ ?_
    rotate_left
    · go_simp
      rfl
    refine hK.out _ _ ?_
    clear hK K
    refine done_ (by kernel_rfl) ?_
    have hL1 := HL1.out
    have hL2 := HL2.out
    have hS3 := HS3.out
    gi_wp2
    refine ⟨((KeepsOthers.drew W).trans hk2).from _, ⟨hs2 b1 hb1 (by omega), hs2 b2 hb2 (by omega)⟩, ⟨⟨_, hv2, ?_, trivial⟩, (hs2 _ (by omega) (by omega)).trans HBV.out, hB.trans ((below_drew1 (Below.refl _ _)).trans (hbl2 _ (by have := HB2.out.size; omega))), Nat.le_trans hz hk2.size⟩⟩
    simpa using hr2
  case done =>
    rintro D ys W hD hys ⟨⟨vv, hv, hrow, -⟩, hbv, hB, hz⟩ hK
    have hl : ys.length = m := by have := congrArg List.length hys; simpa using this
    have ht : ys.map (fun x : Fin m => bt v ((x.val : Int) * a0_2)) = pipe_Tell.told a0_2 v m := by rw [pipe_Tell.told, ← hys, List.map_map]; rfl
    have htl : (pipe_Tell.told a0_2 v m).length = m := by simp [pipe_Tell.told]
    rw [hl, ht] at hrow
    obtain ⟨A, c, rfl⟩ := Ythblnnboeikgcaa.Round.own_slice hrow
    have kcv : (convert 67 9 (.slice A m c)).run Try.prog W = .ok (.string (strOfNums (pipe_Tell.told a0_2 v m))) W := by
      have h9 := hrow
      have h8 := HM.out
      generalize pipe_Tell.told a0_2 v m = L at htl h9 ⊢
      subst htl
      exact string_of_reads (e := 5) Try.underlying67 Try.underlying5 Try.underlying9 (Ythblnnboeikgcaa.Round.own_reads h9 (by omega))
    have hva := hv.cell
    have HD9 := Sd.mk hD
    have HK9 := Sd.mk hK
    clear hl ht htl hrow hD hK hys
    go_wp2
    refine ⟨by simp, .inl ⟨_, _, rfl, run_takeDeferred HK9.out, ?_⟩⟩
    exact ⟨_, results_tmp rfl _ _ _, rfl, hB.trans (belowK_b (w := w) (Nat.le_refl _) W D _ _ (Nat.le_trans HB3.out.size HD9.out) HK9.out rfl rfl)⟩
  case stop =>
    rintro D c pre W _ _ h _
    exact h.elim
end Go.Proofs.Ythblnnboeikgcaa.B
