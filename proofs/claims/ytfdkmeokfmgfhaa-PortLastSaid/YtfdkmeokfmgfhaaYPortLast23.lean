import Derived.Deep.RegionHeld3
import Derived.Test.YtfdkmeokfmgfhaaYPortLast18
import Derived.Test.YtfdkmeokfmgfhaaYPortLast22
set_option maxHeartbeats 4000000
set_option maxRecDepth 100000
namespace Go.Proofs.Ytfdkmeokfmgfhaa.X
open Go.RowKit Go.Proofs.YtfdkmeokfmgfhaaW.PrintWords Go.Proofs.YtfdkmeokfmgfhaaW.PrintLast Go.Proofs.YtfdkmeokfmgfhaaW.PrintMore
attribute [local go_sem] max2_int min2_int max_two min_two max_three min_three max_four min_four   -- for this text's walks alone
set_option linter.unusedVariables false
set_option linter.unusedSimpArgs false
theorem port_Older.drew {w : World} {a : Addr} {v : Value} (h : w.cell? a = some v) : w.drew.cell? a = some v := h
def port_Older.sat (a m : Int) : Int := if a < 0 ∨ m < 0 then 0 else if a ≥ m then m else wrap64 (a + 1)
theorem port_Older.sat_f (k : Nat) (a m : Int) : num_Sat.f (k + 1) a m = some (port_Older.sat a m) := by
  unfold num_Sat.f port_Older.sat
  by_cases h1 : a < 0
  · simp [num_Sat.j0, h1]
  · by_cases h2 : m < 0
    · simp [num_Sat.j0, h1, h2]
    · by_cases h3 : a ≥ m
      · simp [num_Sat.j0, h1, h2, h3]
      · simp [num_Sat.j0, h1, h2, h3]
def port_Older.grow (m : Int) (p : S62) : S62 := ⟨⟨p.f0.f0, p.f0.f1, port_Older.sat p.f0.f2 m⟩⟩
def port_Older.upto (m : Int) (l : List S62) (j : Nat) : List S62 := (l.take j).map (port_Older.grow m) ++ l.drop j
theorem port_Older.upto_len (m : Int) (l : List S62) (j : Nat) (h : j ≤ l.length) : (port_Older.upto m l j).length = l.length := by
  simp [port_Older.upto]
  omega
theorem port_Older.step (m : Int) (l : List S62) (j : Nat) (h : j < l.length) : (port_Older.upto m l j).set j (port_Older.grow m (rd_T62 (port_Older.upto m l j) (j : Int))) = port_Older.upto m l (j + 1) := by
  have hd : l.drop j = l[j] :: l.drop (j + 1) := List.drop_eq_getElem_cons h
  have hl : ((l.take j).map (port_Older.grow m)).length = j := by simp; omega
  have hr : rd_T62 (port_Older.upto m l j) (j : Int) = l[j] := by
    simp only [rd_T62, Int.toNat_natCast, port_Older.upto, List.getD_eq_getElem?_getD]
    rw [List.getElem?_append_right (by omega), hl, Nat.sub_self, hd]
    rfl
  rw [hr]
  unfold port_Older.upto
  rw [List.set_append_right _ _ (by omega), hl, Nat.sub_self, hd, List.set_cons_zero, List.take_succ_eq_append_getElem h, List.map_append, List.append_assoc]
  rfl
def port_Older.f (k : Nat) (a0_0 : Int) (a0_1 : Int) (a0_2 : Int) (a0_3 : Int) (a0_4 : Int) (a0_5 : Int) (a0_6 : Int) (a0_7 : Int) (a0_8 : Int) (a0_9 : Int) (l0_10 : List Int) (l1 : List (S43)) : Option ((List (S43))) := (port_open.f k a0_0 a0_1 a0_2 a0_3 a0_4 a0_5 a0_6 a0_7 a0_8 a0_9 l0_10 l1).bind fun l => if l.length ≤ 1000000 then port_closed.f k (l.map (port_Older.grow a0_9)) else none
theorem port_Older.mono : ∀ a0 a1 a2 a3 a4 a5 a6 a7 a8 a9 a10 a11 k, LeO (port_Older.f k a0 a1 a2 a3 a4 a5 a6 a7 a8 a9 a10 a11) (port_Older.f (k + 1) a0 a1 a2 a3 a4 a5 a6 a7 a8 a9 a10 a11) := by
  intro a0 a1 a2 a3 a4 a5 a6 a7 a8 a9 a10 a11 k
  unfold port_Older.f
  exact LeO.bind (port_open.mono _ _ _ _ _ _ _ _ _ _ _ _ _) (fun _ => LeO.ite (port_closed.mono _ _) (LeO.refl _))
theorem port_Older.calls (k : Nat) (a0_0 : Int) (a0_1 : Int) (a0_2 : Int) (a0_3 : Int) (a0_4 : Int) (a0_5 : Int) (a0_6 : Int) (a0_7 : Int) (a0_8 : Int) (a0_9 : Int) (A0_10 : Option Addr) (c0_10 : Nat) (l0_10 : List Int) (A1 : Option Addr) (c1 : Nat) (l1 : List (S43)) (r : List (S43)) (w : World) (hr0_10 : Kd.C (Kd.int .i64) w A0_10 l0_10.length l0_10) (hc0_10 : l0_10.length ≤ c0_10) (hr1 : Kd.C k43 w A1 l1.length l1) (hc1 : l1.length ≤ c1) (h : port_Older.f k a0_0 a0_1 a0_2 a0_3 a0_4 a0_5 a0_6 a0_7 a0_8 a0_9 l0_10 l1 = some r) :
    Calls Try.prog 17 #[.agg #[.int .i64 a0_0, .int .i64 a0_1, .int .i64 a0_2, .int .i64 a0_3, .int .i64 a0_4, .int .i64 a0_5, .int .i64 a0_6, .int .i64 a0_7, .int .i64 a0_8, .int .i64 a0_9, .slice A0_10 l0_10.length c0_10], .slice A1 l1.length c1] w fun e w' => ∃ v0_ : Value, e = .returned (v0_) ∧ Kd.R k43 43 w' w.heap.size (fun _ => True) v0_ r ∧ Below w.heap.size w w' := by
  have hu62 := Try.underlying62
  have HR := Sd.mk hr0_10
  have HC := Sd.mk hc0_10
  have HR1 := Sd.mk hr1
  have HC1 := Sd.mk hc1
  clear hr0_10 hc0_10 hr1 hc1
  unfold port_Older.f at h
  obtain ⟨l, hl, h⟩ := Option.bind_eq_some_iff.mp h
  have HL := Sd.mk hl
  clear hl
  by_cases d3 : l.length ≤ 1000000
  · rw [if_pos d3] at h
    have HCL := Sd.mk h
    have HBL := Sd.mk d3
    clear h d3
    go_enter Try.func17, Try.ntmps17
    go_wp2_with (first | (go_at_call 36; (with_reducible refine (port_open.calls k a0_0 a0_1 a0_2 a0_3 a0_4 a0_5 a0_6 a0_7 a0_8 a0_9 _ _ l0_10 _ _ l1 l _ ?side1 ?side2 ?side3 ?side4 HL.out).mono ?_); (case side1 => exact Kd.C_alloc HR.out _); (case side2 => exact HC.out); (case side3 => exact Kd.C_alloc HR1.out _); (case side4 => exact HC1.out); rintro e' w1 ⟨v0, rfl, ho, hb⟩; obtain ⟨Ao, co, eo⟩ := Kd.R_slice ho; subst eo; have HO := Sd.mk (Kd.R_lower ho (show w.heap.size ≤ _ by simp)); clear ho; have K1 := Sd.mk (blk_below (blk_new w _) hb); have HB1 := Sd.mk (below_then (below_alloc (Below.refl _ w) _) (by simp) hb); clear hb; have ⟨q0, q1, q2, q3, q4, q5, q6, q7, q8, q9, q10⟩ := port_open.cells K1.out))
    go_loopw [12] (fun v12 wr => ∃ j : Nat, v12 = .int .i64 j ∧ j ≤ l.length ∧ Sd (Kd.R k62 62 wr w.heap.size (fun _ => True) (.slice Ao l.length co) (port_Older.upto a0_9 l j)) ∧ Sd (wr.heap[w.heap.size]? = some (.cells #[.int .i64 a0_0, .int .i64 a0_1, .int .i64 a0_2, .int .i64 a0_3, .int .i64 a0_4, .int .i64 a0_5, .int .i64 a0_6, .int .i64 a0_7, .int .i64 a0_8, .int .i64 a0_9, .slice A0_10 l0_10.length c0_10] 24 (0, 0))) ∧ Sd (Below w.heap.size w wr)) (fun i _ => l.length - (intOf i).toNat)
    case atStart => exact ⟨0, rfl, Nat.zero_le _, ⟨by rw [show port_Older.upto a0_9 l 0 = l from by simp [port_Older.upto]]; exact HO.out⟩, K1, HB1⟩
    case round =>
      clear HO HB1 K1 q0 q1 q2 q3 q4 q5 q6 q7 q8 q9 q10
      obtain ⟨j, rfl, hj, HO, KJ, HJ⟩ := hrel
      by_cases hlt : j < l.length
      · have hltb : decide ((j : Int) < (l.length : Int)) = true := decide_eq_true (by omega)
        have HSt := Sd.mk (port_Older.step a0_9 l j hlt)
        have HLen := Sd.mk (port_Older.upto_len a0_9 l j hj)
        have hj0 : (0 : Int) ≤ (j : Int) := by omega
        have hjm : (j : Int) < (l.length : Int) := by omega
        have hjl : j < 1000000 := by have := HBL.out; omega
        have q9 : wr.cell? ⟨w.heap.size, 9, none⟩ = some (.int .i64 a0_9) := (blk_cell KJ.out 9).trans rfl
        obtain ⟨go, co', eo, gb7, gl, cl, HG⟩ := Kd.R_form HO.out (by have := HLen.out; omega)
        injection eo with ea en ec
        subst ea
        subst ec
        clear en
        have GB := Sd.mk gb7
        have GG := Sd.mk HG
        have GNE := Sd.mk (show w.heap.size ≠ go from fun e => by subst e; have e2 := KJ.out.symm.trans GG.out; simp at e2)
        clear gb7 gl HG
        obtain ⟨ce, hcl, hM, hcc, hfr⟩ := Kd.R_elem HO.out z62 (j : Int) (by omega) hjm
        obtain rfl := k62_openM hM
        have hx2 : wr.cell? ⟨go, j * 3 + 2, none⟩ = some (.int .i64 (rd_T62 (port_Older.upto a0_9 l j) (j : Int)).f0.f2) := hcc 2 _ rfl
        clear hcl hcc hfr hM
        go_wp2
        refine start_ (n := 6) (S := fun w' => w'.cell? ⟨w.heap.size, 9, none⟩ = some (.int .i64 a0_9)) (ds := [5]) #[false,false,false,false,false,false] (by kernel_rfl) rfl rfl (q9) (fun hHeld => ?_)
        refine pure_ (i := 0) (N := some 15) (v := ?_) (a' := ?_) #[true,false,false,false,false,false] rfl rfl (by kernel_rfl) (fun _ _ _ h => h) (Or.inl ⟨by rfl, ?_⟩) ?_ ?_
        rotate_left
        · intro w'
          go_simp
          with_reducible rfl
        rotate_left
        · simp only [Act.put, List.setIfInBounds_toArray, List.set_cons_zero, List.set_cons_succ, i64_w, i32_w]
          rfl
        refine pure_ (i := 1) (N := some 16) (v := ?_) (a' := ?_) #[true,true,false,false,false,false] rfl rfl (by kernel_rfl) (fun _ _ _ h => h) (Or.inl ⟨by rfl, ?_⟩) ?_ ?_
        rotate_left
        · intro w'
          go_simp
          with_reducible rfl
        rotate_left
        · simp only [Act.put, List.setIfInBounds_toArray, List.set_cons_zero, List.set_cons_succ, i64_w, i32_w]
          rfl
        refine pure_ (i := 2) (N := some 17) (v := ?_) (a' := ?_) #[true,true,true,false,false,false] rfl rfl (by kernel_rfl) (fun _ _ _ h => h) (Or.inl ⟨by rfl, ?_⟩) ?_ ?_
        rotate_left
        · intro w'
          go_simp
          with_reducible rfl
        rotate_left
        · simp only [Act.put, List.setIfInBounds_toArray, List.set_cons_zero, List.set_cons_succ, i64_w, i32_w]
          rfl
        refine pure_ (i := 3) (N := some 18) (v := ?_) (a' := ?_) #[true,true,true,true,false,false] rfl rfl (by kernel_rfl) (fun _ _ _ h => h) (Or.inl ⟨by rfl, ?_⟩) ?_ ?_
        rotate_left
        · intro w'
          go_simp
          with_reducible rfl
        rotate_left
        · simp only [Act.put, List.setIfInBounds_toArray, List.set_cons_zero, List.set_cons_succ, i64_w, i32_w]
          rfl
        refine take_ (i := 4) (N := some 19) (v := ?_) (a' := ?_) #[true,true,true,true,true,false] rfl rfl (by kernel_rfl) (fun _ _ _ h => h) (Or.inl ⟨by rfl, ?_⟩) hHeld ?_ ?_
        rotate_left
        · intro w' s0
          go_simp
          with_reducible rfl
        rotate_left
        · simp only [Act.put, List.setIfInBounds_toArray, List.set_cons_zero, List.set_cons_succ, i64_w, i32_w]
          rfl
        refine last_ (i := 5) (N := some 20) #[true,true,true,true,true,true] rfl rfl (by kernel_rfl) (by decide) (fun K hK => ?_)
        refine goes_ Try.func40 (by kernel_rfl) rfl #[.pointer (some ⟨go, j * 3, none⟩), .int .i64 a0_9] (by rfl) rfl rfl (by simp only [List.map_toArray, List.map_cons, List.map_nil]; rfl) ?_
        with_reducible refine (port_one_grow.calls (k + 1) go (j * 3) _ a0_9 _ _ _ _ (blk_drew GG.out) (port_Older.drew hx2) (port_Older.sat_f k _ _)).mono ?_
        rintro e' w3 ⟨vv, wy, rfl, hb, rfl⟩
        refine ⟨_, rfl, ?_⟩
        have HOy := Kd.R_below (Kd.R_drew HO.out) hb
        have HJy := Sd.mk (below_step (below_drew1 HJ.out) hb)
        have KJy := Sd.mk (blk_below (blk_drew KJ.out) hb)
        obtain ⟨ce, hcl, hM, hcc, hfr⟩ := Kd.R_elem HOy z62 (j : Int) (by omega) hjm
        obtain rfl := k62_openM hM
        have HP := (Kd.R_seg HOy (j : Int) (by omega) hjm (seg := [.int .i64 (port_Older.sat (rd_T62 (port_Older.upto a0_9 l j) (j : Int)).f0.f2 a0_9)]) (j := 2) hcl hcc (show 3 ≤ 3 from by decide) (x' := port_Older.grow a0_9 (rd_T62 (port_Older.upto a0_9 l j) (j : Int))) (k62_mkM _ _ _ (port_Older.grow a0_9 (rd_T62 (port_Older.upto a0_9 l j) (j : Int)))) (fun _ hk => hk)).1
        have m0 := Sd.mk (show Kd.R k62 62 (wy.setCell ⟨go, j * 3 + 2, none⟩ (.int .i64 (port_Older.sat (rd_T62 (port_Older.upto a0_9 l j) (j : Int)).f0.f2 a0_9))) w.heap.size (fun _ => True) (.slice (some ⟨go, 0, none⟩) l.length co) ((port_Older.upto a0_9 l j).set j (port_Older.grow a0_9 (rd_T62 (port_Older.upto a0_9 l j) (j : Int)))) from HP)
        have m1 := Sd.mk (HJy.out.setCell (p := ⟨go, j * 3 + 2, none⟩) GB.out (.int .i64 (port_Older.sat (rd_T62 (port_Older.upto a0_9 l j) (j : Int)).f0.f2 a0_9)))
        have m2 := Sd.mk (blk_far KJy.out (p := ⟨go, j * 3 + 2, none⟩) GNE.out (.int .i64 (port_Older.sat (rd_T62 (port_Older.upto a0_9 l j) (j : Int)).f0.f2 a0_9)))
        clear HP hM hcl hcc hfr HOy HJy KJy hb HO HJ KJ
        generalize (wy.setCell ⟨go, j * 3 + 2, none⟩ (.int .i64 (port_Older.sat (rd_T62 (port_Older.upto a0_9 l j) (j : Int)).f0.f2 a0_9))) = w4 at m0 m1 m2 ⊢
        refine hK.out _ _ ?_
        clear hK K
        refine norm_ (a' := ?_) ?_ ?_
        rotate_left
        · show Act.put _ (some 20) _ = _
          simp only [Act.put, List.setIfInBounds_toArray, List.set_cons_zero, List.set_cons_succ, i64_w, i32_w]
          rfl
        refine done_ (by kernel_rfl) ?_
        go_wp2
        go_roundw
        case rel => exact ⟨j + 1, by go_num, hlt, ⟨by rw [← HSt.out]; exact m0.out⟩, m2, m1⟩
        case measure => simp [intOf]; omega
      · obtain rfl : j = l.length := by omega
        have hltb : decide ((l.length : Int) < (l.length : Int)) = false := decide_eq_false (by omega)
        rw [show port_Older.upto a0_9 l l.length = l.map (port_Older.grow a0_9) from by simp [port_Older.upto]] at HO
        have HLen := Sd.mk (show l.length = (l.map (port_Older.grow a0_9)).length by simp)
        go_wp2_with (first | (go_at_call 38; (with_reducible refine (calls_of_args (by rw [HLen.out]) (port_closed.calls k Ao co (l.map (port_Older.grow a0_9)) r _ ?side1 ?side2 HCL.out)).mono ?_); (case side1 => exact (Kd.R_reads' HO.out).2.2); (case side2 => exact (by have := (Kd.R_reads' HO.out).1; have := (Kd.R_reads' HO.out).2.1; omega)); rintro e' w9 ⟨v9, rfl, ho, hb⟩; have HO9 := Sd.mk (Kd.R_lower ho HJ.out.size); have HB9 := Sd.mk (below_step HJ.out hb); clear ho hb))
        go_ret
        exact ⟨_, rfl, HO9.out, HB9.out⟩
  · rw [if_neg d3] at h
    cases h
end Go.Proofs.Ytfdkmeokfmgfhaa.X
