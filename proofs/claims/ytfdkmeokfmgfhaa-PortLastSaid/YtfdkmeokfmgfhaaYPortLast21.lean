import Derived.Deep.RegionHeld3
import Derived.Test.YtfdkmeokfmgfhaaYPortLast18
import Derived.Test.YtfdkmeokfmgfhaaYPortLast19
import Derived.Test.YtfdkmeokfmgfhaaYPortLast20
set_option maxHeartbeats 4000000
set_option maxRecDepth 100000
namespace Go.Proofs.Ytfdkmeokfmgfhaa.X
open Go.RowKit Go.Proofs.YtfdkmeokfmgfhaaW.PrintWords Go.Proofs.YtfdkmeokfmgfhaaW.PrintLast Go.Proofs.YtfdkmeokfmgfhaaW.PrintMore
attribute [local go_sem] max2_int min2_int max_two min_two max_three min_three max_four min_four   -- for this text's walks alone
set_option linter.unusedVariables false
set_option linter.unusedSimpArgs false
theorem port_Put.drew {w : World} {a : Addr} {v : Value} (h : w.cell? a = some v) : w.drew.cell? a = some v := h
def port_Put.put (l : List S62) (d : S38) : List S62 := if 0 ≤ d.f0 ∧ d.f0 < (l.length : Int) then l.set d.f0.toNat ⟨⟨d.f3, d.f2, 0⟩⟩ else l
theorem port_Put.put_len (l : List S62) (d : S38) : (port_Put.put l d).length = l.length := by
  unfold port_Put.put
  split <;> simp
theorem port_Put.fold_len : ∀ (ds : List S38) (l : List S62), (ds.foldl port_Put.put l).length = l.length
  | [], _ => rfl
  | d :: ds, l => by rw [List.foldl_cons, port_Put.fold_len ds, port_Put.put_len]
theorem port_Put.step (l : List S62) (ds : List S38) (j : Nat) (h : j < ds.length) : (ds.take (j + 1)).foldl port_Put.put l = port_Put.put ((ds.take j).foldl port_Put.put l) (rd_T38 ds (j : Int)) := by
  rw [List.take_succ_eq_append_getElem h, List.foldl_append]
  simp [rd_T38, List.getD_eq_getElem?_getD, h]
def port_Put.f (k : Nat) (a0_0 : Int) (a0_1 : Int) (a0_2 : Int) (a0_3 : Int) (a0_4 : Int) (a0_5 : Int) (a0_6 : Int) (a0_7 : Int) (a0_8 : Int) (a0_9 : Int) (l0_10 : List Int) (l1 : List (S43)) (l2 : List (S38)) : Option ((List (S43))) := (port_open.f k a0_0 a0_1 a0_2 a0_3 a0_4 a0_5 a0_6 a0_7 a0_8 a0_9 l0_10 l1).bind fun l => if l2.length ≤ 1000000 then port_closed.f k (l2.foldl port_Put.put l) else none
theorem port_Put.mono : ∀ a0 a1 a2 a3 a4 a5 a6 a7 a8 a9 a10 a11 a12 k, LeO (port_Put.f k a0 a1 a2 a3 a4 a5 a6 a7 a8 a9 a10 a11 a12) (port_Put.f (k + 1) a0 a1 a2 a3 a4 a5 a6 a7 a8 a9 a10 a11 a12) := by
  intro a0 a1 a2 a3 a4 a5 a6 a7 a8 a9 a10 a11 a12 k
  unfold port_Put.f
  exact LeO.bind (port_open.mono _ _ _ _ _ _ _ _ _ _ _ _ _) (fun _ => LeO.ite (port_closed.mono _ _) (LeO.refl _))
theorem port_Put.calls (k : Nat) (a0_0 : Int) (a0_1 : Int) (a0_2 : Int) (a0_3 : Int) (a0_4 : Int) (a0_5 : Int) (a0_6 : Int) (a0_7 : Int) (a0_8 : Int) (a0_9 : Int) (A0_10 : Option Addr) (c0_10 : Nat) (l0_10 : List Int) (A1 : Option Addr) (c1 : Nat) (l1 : List (S43)) (A2 : Option Addr) (c2 : Nat) (l2 : List (S38)) (r : List (S43)) (w : World) (hr0_10 : Kd.C (Kd.int .i64) w A0_10 l0_10.length l0_10) (hc0_10 : l0_10.length ≤ c0_10) (hr1 : Kd.C k43 w A1 l1.length l1) (hc1 : l1.length ≤ c1) (hr2 : Kd.C k38 w A2 l2.length l2) (hc2 : l2.length ≤ c2) (h : port_Put.f k a0_0 a0_1 a0_2 a0_3 a0_4 a0_5 a0_6 a0_7 a0_8 a0_9 l0_10 l1 l2 = some r) :
    Calls Try.prog 15 #[.agg #[.int .i64 a0_0, .int .i64 a0_1, .int .i64 a0_2, .int .i64 a0_3, .int .i64 a0_4, .int .i64 a0_5, .int .i64 a0_6, .int .i64 a0_7, .int .i64 a0_8, .int .i64 a0_9, .slice A0_10 l0_10.length c0_10], .slice A1 l1.length c1, .slice A2 l2.length c2] w fun e w' => ∃ v0_ : Value, e = .returned (v0_) ∧ Kd.R k43 43 w' w.heap.size (fun _ => True) v0_ r ∧ Below w.heap.size w w' := by
  have hu38 := Try.underlying38
  have hu62 := Try.underlying62
  have HR2 := Sd.mk hr2
  have HC2 := Sd.mk hc2
  clear hr2 hc2
  have HR := Sd.mk hr0_10
  have HC := Sd.mk hc0_10
  have HR1 := Sd.mk hr1
  have HC1 := Sd.mk hc1
  clear hr0_10 hc0_10 hr1 hc1
  unfold port_Put.f at h
  obtain ⟨l, hl, h⟩ := Option.bind_eq_some_iff.mp h
  have HL := Sd.mk hl
  clear hl
  by_cases d3 : l2.length ≤ 1000000
  · rw [if_pos d3] at h
    have HCL := Sd.mk h
    have HBL := Sd.mk d3
    clear h d3
    go_enter Try.func15, Try.ntmps15
    go_wp2_with (first | (go_at_call 36; (with_reducible refine (port_open.calls k a0_0 a0_1 a0_2 a0_3 a0_4 a0_5 a0_6 a0_7 a0_8 a0_9 _ _ l0_10 _ _ l1 l _ ?side1 ?side2 ?side3 ?side4 HL.out).mono ?_); (case side1 => exact Kd.C_alloc HR.out _); (case side2 => exact HC.out); (case side3 => exact Kd.C_alloc HR1.out _); (case side4 => exact HC1.out); rintro e' w1 ⟨v0, rfl, ho, hb⟩; obtain ⟨Ao, co, eo⟩ := Kd.R_slice ho; subst eo; have HO := Sd.mk (Kd.R_lower ho (show w.heap.size ≤ _ by simp)); clear ho; have K1 := Sd.mk (blk_below (blk_new w _) hb); have HB1 := Sd.mk (below_then (below_alloc (Below.refl _ w) _) (by simp) hb); clear hb; have ⟨q0, q1, q2, q3, q4, q5, q6, q7, q8, q9, q10⟩ := port_open.cells K1.out))
    go_loopw [15] (fun v15 wr => ∃ j : Nat, v15 = .int .i64 j ∧ j ≤ l2.length ∧ Sd (Kd.R k62 62 wr w.heap.size (fun _ => True) (.slice Ao l.length co) ((l2.take j).foldl port_Put.put l)) ∧ Sd (Below w.heap.size w wr)) (fun i _ => l2.length - (intOf i).toNat)
    case atStart => exact ⟨0, rfl, Nat.zero_le _, HO, HB1⟩
    case round =>
      clear HO HB1 K1 q0 q1 q2 q3 q4 q5 q6 q7 q8 q9 q10
      obtain ⟨j, rfl, hj, HO, HJ⟩ := hrel
      by_cases hlt : j < l2.length
      · have hltb : decide ((j : Int) < (l2.length : Int)) = true := decide_eq_true (by omega)
        obtain ⟨ad, e, hy0, hy1, hy2, hy3⟩ := at_T38 (Kd.C_below HR2.out HJ.out) (j : Int) (by omega) (by omega)
        subst e
        rw [Int.toNat_natCast] at hy0 hy1 hy2 hy3
        have HSt := Sd.mk (port_Put.step l l2 j hlt)
        have HLen := Sd.mk (port_Put.fold_len (l2.take j) l)
        generalize rd_T38 l2 (j : Int) = d at hy0 hy1 hy2 hy3 HSt
        have hj0 : (j : Int) < (l2.length : Int) := by omega
        have hjl : j < 1000000 := by have := HBL.out; omega
        by_cases e0 : 0 ≤ d.f0
        · have e0b : decide (0 ≤ d.f0) = true := decide_eq_true e0
          by_cases e1 : d.f0 < (l.length : Int)
          · have e1b : decide (d.f0 < (l.length : Int)) = true := decide_eq_true e1
            go_wp2_with (first
              | ((with_reducible refine gate_dst (N := 9) rfl ?_); refine box_event ?hg (N := 9) ?hd (cs := #[.int .i64 0, .int .i64 0, .int .i64 0, .string (⟨#[]⟩ : ByteArray)]) (t := 38) ?hr ?_; (case hd => rfl); (case hg => rfl); (case hr => first | (go_simp; done) | (go_simp; rfl)); intro gb hg wx hbox hb; have n0 := Sd.mk (Kd.R_below HO.out hb); have n1 := Sd.mk (below_step HJ.out hb); have BK := Sd.mk hbox; have GE := Sd.mk (show w.heap.size ≤ gb by rw [hg]; exact HJ.out.size); clear HO HJ hb hbox hg; have HO := n0; have HJ := n1; clear n0 n1; have hz0 : wx.cell? ⟨gb, 0, none⟩ = some (.int .i64 0) := (blk_cell BK.out 0).trans rfl; have hf0 := blk_frozen BK.out 0; have hz1 : wx.cell? ⟨gb, 1, none⟩ = some (.int .i64 0) := (blk_cell BK.out 1).trans rfl; have hf1 := blk_frozen BK.out 1; have hz2 : wx.cell? ⟨gb, 2, none⟩ = some (.int .i64 0) := (blk_cell BK.out 2).trans rfl; have hf2 := blk_frozen BK.out 2; have hz3 : wx.cell? ⟨gb, 3, none⟩ = some (.string (⟨#[]⟩ : ByteArray)) := (blk_cell BK.out 3).trans rfl; have hf3 := blk_frozen BK.out 3)
              | ((with_reducible refine gate_store (t := 38) (p := 9) rfl ?_); refine store_event (t := 38) (p := 9) (v := ?vo) (w1 := ((((wx.setCell ⟨gb, 0, none⟩ (.int .i64 d.f0)).setCell ⟨gb, 1, none⟩ (.int .i64 d.f1)).setCell ⟨gb, 2, none⟩ (.int .i64 d.f2)).setCell ⟨gb, 3, none⟩ (.string d.f3))) ?hg ?ho ?hn ?hr ?_; (case ho => rfl); (case hg => rfl); (case hn => rfl); (case hr => first | (go_simp; done) | (go_simp; rfl)); intro wz hw; have n0 : Sd (Kd.R k62 62 wz w.heap.size (fun _ => True) (.slice Ao l.length co) ((l2.take j).foldl port_Put.put l)) := ⟨by rw [hw]; exact Kd.R_mono (Kd.R_far (p := ⟨gb, 3, none⟩) (Kd.R_far (p := ⟨gb, 2, none⟩) (Kd.R_far (p := ⟨gb, 1, none⟩) (Kd.R_far (p := ⟨gb, 0, none⟩) (Kd.R_types HO.out BK.out (by decide)) (fun _ hk => hk.2) (.int .i64 d.f0)) (fun _ hk => hk.2) (.int .i64 d.f1)) (fun _ hk => hk.2) (.int .i64 d.f2)) (fun _ hk => hk.2) (.string d.f3)) (fun _ _ => trivial)⟩; have n1 : Sd (Below w.heap.size w wz) := ⟨by rw [hw]; exact ((((HJ.out).setCell (p := ⟨gb, 0, none⟩) GE.out _).setCell (p := ⟨gb, 1, none⟩) GE.out _).setCell (p := ⟨gb, 2, none⟩) GE.out _).setCell (p := ⟨gb, 3, none⟩) GE.out _⟩; have n2 : Sd (wz.heap[gb]? = some (.cells #[.int .i64 d.f0, .int .i64 d.f1, .int .i64 d.f2, .string d.f3] 38 (0, 0))) := ⟨by rw [hw]; exact blk_put (cs := #[.int .i64 d.f0, .int .i64 d.f1, .int .i64 d.f2, .string (⟨#[]⟩ : ByteArray)]) (blk_put (cs := #[.int .i64 d.f0, .int .i64 d.f1, .int .i64 0, .string (⟨#[]⟩ : ByteArray)]) (blk_put (cs := #[.int .i64 d.f0, .int .i64 0, .int .i64 0, .string (⟨#[]⟩ : ByteArray)]) (blk_put (cs := #[.int .i64 0, .int .i64 0, .int .i64 0, .string (⟨#[]⟩ : ByteArray)]) (BK.out) 0 _ rfl) 1 _ rfl) 2 _ rfl) 3 _ rfl⟩; clear HO HJ BK hw hz0 hz1 hz2 hz3 hf0 hf1 hf2 hf3; have HO := n0; have HJ := n1; have BK := n2; clear n0 n1 n2; have hz0 : wz.cell? ⟨gb, 0, none⟩ = some (.int .i64 d.f0) := (blk_cell BK.out 0).trans rfl; have hz1 : wz.cell? ⟨gb, 1, none⟩ = some (.int .i64 d.f1) := (blk_cell BK.out 1).trans rfl; have hz2 : wz.cell? ⟨gb, 2, none⟩ = some (.int .i64 d.f2) := (blk_cell BK.out 2).trans rfl; have hz3 : wz.cell? ⟨gb, 3, none⟩ = some (.string d.f3) := (blk_cell BK.out 3).trans rfl))
            obtain ⟨go, co', eo, gb7, gl, cl, HG⟩ := Kd.R_form HO.out (by have := HLen.out; omega)
            injection eo with ea en ec
            subst ea
            subst ec
            clear en
            have GB := Sd.mk gb7
            have GG := Sd.mk HG
            clear gb7 gl HG
            obtain ⟨ce, hcl, hM, hcc, hfr⟩ := Kd.R_elem HO.out z62 d.f0 e0 e1
            obtain rfl := k62_openM hM
            have hx0 : wz.cell? ⟨go, d.f0.toNat * 3, none⟩ = some _ := hcc 0 _ rfl
            have hx1 : wz.cell? ⟨go, d.f0.toNat * 3 + 1, none⟩ = some _ := hcc 1 _ rfl
            have hx2 : wz.cell? ⟨go, d.f0.toNat * 3 + 2, none⟩ = some _ := hcc 2 _ rfl
            clear hcl hcc hfr hM
            refine start_ (n := 6) (S := fun w' => w'.cell? ⟨gb, 0, none⟩ = some (.int .i64 d.f0) ∧ w'.cell? ⟨gb, 1, none⟩ = some (.int .i64 d.f1) ∧ w'.cell? ⟨gb, 2, none⟩ = some (.int .i64 d.f2) ∧ w'.cell? ⟨gb, 3, none⟩ = some (.string d.f3)) (ds := [5]) #[false,false,false,false,false,false] (by kernel_rfl) rfl rfl ⟨hz0, hz1, hz2, hz3⟩ (fun hHeld => ?_)
            refine pure_ (i := 0) (N := some 29) (v := ?_) (a' := ?_) #[true,false,false,false,false,false] rfl rfl (by kernel_rfl) (fun _ _ _ h => h) (Or.inl ⟨by rfl, ?_⟩) ?_ ?_
            rotate_left
            · intro w'
              go_simp
              with_reducible rfl
            rotate_left
            · simp only [Act.put, List.setIfInBounds_toArray, List.set_cons_zero, List.set_cons_succ, i64_w, i32_w]
              rfl
            refine pure_ (i := 1) (N := some 30) (v := ?_) (a' := ?_) #[true,true,false,false,false,false] rfl rfl (by kernel_rfl) (fun _ _ _ h => h) (Or.inl ⟨by rfl, ?_⟩) ?_ ?_
            rotate_left
            · intro w'
              go_simp
              with_reducible rfl
            rotate_left
            · simp only [Act.put, List.setIfInBounds_toArray, List.set_cons_zero, List.set_cons_succ, i64_w, i32_w]
              rfl
            refine take_ (i := 2) (N := some 31) (v := ?_) (a' := ?_) #[true,true,true,false,false,false] rfl rfl (by kernel_rfl) (fun _ _ _ h => h) (Or.inl ⟨by rfl, ?_⟩) hHeld ?_ ?_
            rotate_left
            · rintro w' ⟨s0, s1, s2, s3⟩
              go_simp
              with_reducible rfl
            rotate_left
            · simp only [Act.put, List.setIfInBounds_toArray, List.set_cons_zero, List.set_cons_succ, i64_w, i32_w]
              rfl
            refine pure_ (i := 3) (N := some 32) (v := ?_) (a' := ?_) #[true,true,true,true,false,false] rfl rfl (by kernel_rfl) (fun _ _ _ h => h) (Or.inl ⟨by rfl, ?_⟩) ?_ ?_
            rotate_left
            · intro w'
              go_simp
              with_reducible rfl
            rotate_left
            · simp only [Act.put, List.setIfInBounds_toArray, List.set_cons_zero, List.set_cons_succ, i64_w, i32_w]
              rfl
            refine take_ (i := 4) (N := some 33) (v := ?_) (a' := ?_) #[true,true,true,true,true,false] rfl rfl (by kernel_rfl) (fun _ _ _ h => h) (Or.inl ⟨by rfl, ?_⟩) hHeld ?_ ?_
            rotate_left
            · rintro w' ⟨s0, s1, s2, s3⟩
              go_simp
              with_reducible rfl
            rotate_left
            · simp only [Act.put, List.setIfInBounds_toArray, List.set_cons_zero, List.set_cons_succ, i64_w, i32_w]
              rfl
            refine last_ (i := 5) (N := some 34) #[true,true,true,true,true,true] rfl rfl (by kernel_rfl) (by decide) (fun K hK => ?_)
            refine goes_ Try.func37 (by kernel_rfl) rfl #[.pointer (some ⟨go, d.f0.toNat * 3, none⟩), .agg #[.int .i64 d.f0, .int .i64 d.f1, .int .i64 d.f2, .string d.f3]] (by rfl) rfl rfl (by simp only [List.map_toArray, List.map_cons, List.map_nil]; rfl) ?_
            with_reducible refine (port_one_take.calls go (d.f0.toNat * 3) d.f0 d.f1 d.f2 d.f3 _ _ _ _ _ _ (blk_drew GG.out) (port_Put.drew hx0) (port_Put.drew hx1) (port_Put.drew hx2)).mono ?_
            rintro e' w3 ⟨vv, wy, rfl, hb, rfl⟩
            refine ⟨_, rfl, ?_⟩
            have HOy := Kd.R_below (Kd.R_drew HO.out) hb
            have HJy := Sd.mk (below_step (below_drew1 HJ.out) hb)
            obtain ⟨ce, hcl, hM, hcc, hfr⟩ := Kd.R_elem HOy z62 d.f0 e0 e1
            obtain rfl := k62_openM hM
            have HP := (Kd.R_seg HOy d.f0 e0 e1 (seg := [.string d.f3, .int .i64 d.f2, .int .i64 0]) (j := 0) hcl hcc (show 3 ≤ 3 from by decide) (x' := (⟨⟨d.f3, d.f2, 0⟩⟩ : S62)) (k62_mkM _ _ _ (⟨⟨d.f3, d.f2, 0⟩⟩ : S62)) (fun _ hk => hk)).1
            have m0 := Sd.mk (show Kd.R k62 62 (((wy.setCell ⟨go, d.f0.toNat * 3, none⟩ (.string d.f3)).setCell ⟨go, d.f0.toNat * 3 + 1, none⟩ (.int .i64 d.f2)).setCell ⟨go, d.f0.toNat * 3 + 2, none⟩ (.int .i64 0)) w.heap.size (fun _ => True) (.slice (some ⟨go, 0, none⟩) l.length co) (((l2.take j).foldl port_Put.put l).set d.f0.toNat (⟨⟨d.f3, d.f2, 0⟩⟩ : S62)) from HP)
            have m1 := Sd.mk ((((HJy.out.setCell (p := ⟨go, d.f0.toNat * 3, none⟩) GB.out (.string d.f3)).setCell (p := ⟨go, d.f0.toNat * 3 + 1, none⟩) GB.out (.int .i64 d.f2)).setCell (p := ⟨go, d.f0.toNat * 3 + 2, none⟩) GB.out (.int .i64 0)))
            clear HP hM hcl hcc hfr HOy HJy hb HO HJ
            generalize (((wy.setCell ⟨go, d.f0.toNat * 3, none⟩ (.string d.f3)).setCell ⟨go, d.f0.toNat * 3 + 1, none⟩ (.int .i64 d.f2)).setCell ⟨go, d.f0.toNat * 3 + 2, none⟩ (.int .i64 0)) = w4 at m0 m1 ⊢
            refine hK.out _ _ ?_
            clear hK K
            refine norm_ (a' := ?_) ?_ ?_
            rotate_left
            · show Act.put _ (some 34) _ = _
              simp only [Act.put, List.setIfInBounds_toArray, List.set_cons_zero, List.set_cons_succ, i64_w, i32_w]
              rfl
            refine done_ (by kernel_rfl) ?_
            go_wp2
            go_roundw
            case rel => exact ⟨j + 1, by go_num, hlt, ⟨by rw [HSt.out, port_Put.put, if_pos ⟨e0, by rw [HLen.out]; exact e1⟩]; exact m0.out⟩, m1⟩
            case measure => simp [intOf]; omega
          · have e1b : decide (d.f0 < (l.length : Int)) = false := decide_eq_false e1
            go_wp2_with (first
              | ((with_reducible refine gate_dst (N := 9) rfl ?_); refine box_event ?hg (N := 9) ?hd (cs := #[.int .i64 0, .int .i64 0, .int .i64 0, .string (⟨#[]⟩ : ByteArray)]) (t := 38) ?hr ?_; (case hd => rfl); (case hg => rfl); (case hr => first | (go_simp; done) | (go_simp; rfl)); intro gb hg wx hbox hb; have n0 := Sd.mk (Kd.R_below HO.out hb); have n1 := Sd.mk (below_step HJ.out hb); have BK := Sd.mk hbox; have GE := Sd.mk (show w.heap.size ≤ gb by rw [hg]; exact HJ.out.size); clear HO HJ hb hbox hg; have HO := n0; have HJ := n1; clear n0 n1; have hz0 : wx.cell? ⟨gb, 0, none⟩ = some (.int .i64 0) := (blk_cell BK.out 0).trans rfl; have hf0 := blk_frozen BK.out 0; have hz1 : wx.cell? ⟨gb, 1, none⟩ = some (.int .i64 0) := (blk_cell BK.out 1).trans rfl; have hf1 := blk_frozen BK.out 1; have hz2 : wx.cell? ⟨gb, 2, none⟩ = some (.int .i64 0) := (blk_cell BK.out 2).trans rfl; have hf2 := blk_frozen BK.out 2; have hz3 : wx.cell? ⟨gb, 3, none⟩ = some (.string (⟨#[]⟩ : ByteArray)) := (blk_cell BK.out 3).trans rfl; have hf3 := blk_frozen BK.out 3)
              | ((with_reducible refine gate_store (t := 38) (p := 9) rfl ?_); refine store_event (t := 38) (p := 9) (v := ?vo) (w1 := ((((wx.setCell ⟨gb, 0, none⟩ (.int .i64 d.f0)).setCell ⟨gb, 1, none⟩ (.int .i64 d.f1)).setCell ⟨gb, 2, none⟩ (.int .i64 d.f2)).setCell ⟨gb, 3, none⟩ (.string d.f3))) ?hg ?ho ?hn ?hr ?_; (case ho => rfl); (case hg => rfl); (case hn => rfl); (case hr => first | (go_simp; done) | (go_simp; rfl)); intro wz hw; have n0 : Sd (Kd.R k62 62 wz w.heap.size (fun _ => True) (.slice Ao l.length co) ((l2.take j).foldl port_Put.put l)) := ⟨by rw [hw]; exact Kd.R_mono (Kd.R_far (p := ⟨gb, 3, none⟩) (Kd.R_far (p := ⟨gb, 2, none⟩) (Kd.R_far (p := ⟨gb, 1, none⟩) (Kd.R_far (p := ⟨gb, 0, none⟩) (Kd.R_types HO.out BK.out (by decide)) (fun _ hk => hk.2) (.int .i64 d.f0)) (fun _ hk => hk.2) (.int .i64 d.f1)) (fun _ hk => hk.2) (.int .i64 d.f2)) (fun _ hk => hk.2) (.string d.f3)) (fun _ _ => trivial)⟩; have n1 : Sd (Below w.heap.size w wz) := ⟨by rw [hw]; exact ((((HJ.out).setCell (p := ⟨gb, 0, none⟩) GE.out _).setCell (p := ⟨gb, 1, none⟩) GE.out _).setCell (p := ⟨gb, 2, none⟩) GE.out _).setCell (p := ⟨gb, 3, none⟩) GE.out _⟩; have n2 : Sd (wz.heap[gb]? = some (.cells #[.int .i64 d.f0, .int .i64 d.f1, .int .i64 d.f2, .string d.f3] 38 (0, 0))) := ⟨by rw [hw]; exact blk_put (cs := #[.int .i64 d.f0, .int .i64 d.f1, .int .i64 d.f2, .string (⟨#[]⟩ : ByteArray)]) (blk_put (cs := #[.int .i64 d.f0, .int .i64 d.f1, .int .i64 0, .string (⟨#[]⟩ : ByteArray)]) (blk_put (cs := #[.int .i64 d.f0, .int .i64 0, .int .i64 0, .string (⟨#[]⟩ : ByteArray)]) (blk_put (cs := #[.int .i64 0, .int .i64 0, .int .i64 0, .string (⟨#[]⟩ : ByteArray)]) (BK.out) 0 _ rfl) 1 _ rfl) 2 _ rfl) 3 _ rfl⟩; clear HO HJ BK hw hz0 hz1 hz2 hz3 hf0 hf1 hf2 hf3; have HO := n0; have HJ := n1; have BK := n2; clear n0 n1 n2; have hz0 : wz.cell? ⟨gb, 0, none⟩ = some (.int .i64 d.f0) := (blk_cell BK.out 0).trans rfl; have hz1 : wz.cell? ⟨gb, 1, none⟩ = some (.int .i64 d.f1) := (blk_cell BK.out 1).trans rfl; have hz2 : wz.cell? ⟨gb, 2, none⟩ = some (.int .i64 d.f2) := (blk_cell BK.out 2).trans rfl; have hz3 : wz.cell? ⟨gb, 3, none⟩ = some (.string d.f3) := (blk_cell BK.out 3).trans rfl))
            go_roundw
            case rel => exact ⟨j + 1, by go_num, hlt, ⟨by rw [HSt.out, port_Put.put, if_neg (fun h => e1 (by rw [HLen.out] at h; exact h.2))]; exact HO.out⟩, HJ⟩
            case measure => simp [intOf]; omega
        · have e0b : decide (0 ≤ d.f0) = false := decide_eq_false e0
          go_wp2_with (first
            | ((with_reducible refine gate_dst (N := 9) rfl ?_); refine box_event ?hg (N := 9) ?hd (cs := #[.int .i64 0, .int .i64 0, .int .i64 0, .string (⟨#[]⟩ : ByteArray)]) (t := 38) ?hr ?_; (case hd => rfl); (case hg => rfl); (case hr => first | (go_simp; done) | (go_simp; rfl)); intro gb hg wx hbox hb; have n0 := Sd.mk (Kd.R_below HO.out hb); have n1 := Sd.mk (below_step HJ.out hb); have BK := Sd.mk hbox; have GE := Sd.mk (show w.heap.size ≤ gb by rw [hg]; exact HJ.out.size); clear HO HJ hb hbox hg; have HO := n0; have HJ := n1; clear n0 n1; have hz0 : wx.cell? ⟨gb, 0, none⟩ = some (.int .i64 0) := (blk_cell BK.out 0).trans rfl; have hf0 := blk_frozen BK.out 0; have hz1 : wx.cell? ⟨gb, 1, none⟩ = some (.int .i64 0) := (blk_cell BK.out 1).trans rfl; have hf1 := blk_frozen BK.out 1; have hz2 : wx.cell? ⟨gb, 2, none⟩ = some (.int .i64 0) := (blk_cell BK.out 2).trans rfl; have hf2 := blk_frozen BK.out 2; have hz3 : wx.cell? ⟨gb, 3, none⟩ = some (.string (⟨#[]⟩ : ByteArray)) := (blk_cell BK.out 3).trans rfl; have hf3 := blk_frozen BK.out 3)
            | ((with_reducible refine gate_store (t := 38) (p := 9) rfl ?_); refine store_event (t := 38) (p := 9) (v := ?vo) (w1 := ((((wx.setCell ⟨gb, 0, none⟩ (.int .i64 d.f0)).setCell ⟨gb, 1, none⟩ (.int .i64 d.f1)).setCell ⟨gb, 2, none⟩ (.int .i64 d.f2)).setCell ⟨gb, 3, none⟩ (.string d.f3))) ?hg ?ho ?hn ?hr ?_; (case ho => rfl); (case hg => rfl); (case hn => rfl); (case hr => first | (go_simp; done) | (go_simp; rfl)); intro wz hw; have n0 : Sd (Kd.R k62 62 wz w.heap.size (fun _ => True) (.slice Ao l.length co) ((l2.take j).foldl port_Put.put l)) := ⟨by rw [hw]; exact Kd.R_mono (Kd.R_far (p := ⟨gb, 3, none⟩) (Kd.R_far (p := ⟨gb, 2, none⟩) (Kd.R_far (p := ⟨gb, 1, none⟩) (Kd.R_far (p := ⟨gb, 0, none⟩) (Kd.R_types HO.out BK.out (by decide)) (fun _ hk => hk.2) (.int .i64 d.f0)) (fun _ hk => hk.2) (.int .i64 d.f1)) (fun _ hk => hk.2) (.int .i64 d.f2)) (fun _ hk => hk.2) (.string d.f3)) (fun _ _ => trivial)⟩; have n1 : Sd (Below w.heap.size w wz) := ⟨by rw [hw]; exact ((((HJ.out).setCell (p := ⟨gb, 0, none⟩) GE.out _).setCell (p := ⟨gb, 1, none⟩) GE.out _).setCell (p := ⟨gb, 2, none⟩) GE.out _).setCell (p := ⟨gb, 3, none⟩) GE.out _⟩; have n2 : Sd (wz.heap[gb]? = some (.cells #[.int .i64 d.f0, .int .i64 d.f1, .int .i64 d.f2, .string d.f3] 38 (0, 0))) := ⟨by rw [hw]; exact blk_put (cs := #[.int .i64 d.f0, .int .i64 d.f1, .int .i64 d.f2, .string (⟨#[]⟩ : ByteArray)]) (blk_put (cs := #[.int .i64 d.f0, .int .i64 d.f1, .int .i64 0, .string (⟨#[]⟩ : ByteArray)]) (blk_put (cs := #[.int .i64 d.f0, .int .i64 0, .int .i64 0, .string (⟨#[]⟩ : ByteArray)]) (blk_put (cs := #[.int .i64 0, .int .i64 0, .int .i64 0, .string (⟨#[]⟩ : ByteArray)]) (BK.out) 0 _ rfl) 1 _ rfl) 2 _ rfl) 3 _ rfl⟩; clear HO HJ BK hw hz0 hz1 hz2 hz3 hf0 hf1 hf2 hf3; have HO := n0; have HJ := n1; have BK := n2; clear n0 n1 n2; have hz0 : wz.cell? ⟨gb, 0, none⟩ = some (.int .i64 d.f0) := (blk_cell BK.out 0).trans rfl; have hz1 : wz.cell? ⟨gb, 1, none⟩ = some (.int .i64 d.f1) := (blk_cell BK.out 1).trans rfl; have hz2 : wz.cell? ⟨gb, 2, none⟩ = some (.int .i64 d.f2) := (blk_cell BK.out 2).trans rfl; have hz3 : wz.cell? ⟨gb, 3, none⟩ = some (.string d.f3) := (blk_cell BK.out 3).trans rfl))
          go_roundw
          case rel => exact ⟨j + 1, by go_num, hlt, ⟨by rw [HSt.out, port_Put.put, if_neg (fun h => e0 h.1)]; exact HO.out⟩, HJ⟩
          case measure => simp [intOf]; omega
      · obtain rfl : j = l2.length := by omega
        have hltb : decide ((l2.length : Int) < (l2.length : Int)) = false := decide_eq_false (by omega)
        rw [List.take_length] at HO
        have HLen := Sd.mk (port_Put.fold_len l2 l).symm
        go_wp2_with (first | (go_at_call 38; (with_reducible refine (calls_of_args (by rw [HLen.out]) (port_closed.calls k Ao co (l2.foldl port_Put.put l) r _ ?side1 ?side2 HCL.out)).mono ?_); (case side1 => exact (Kd.R_reads' HO.out).2.2); (case side2 => exact (by have := (Kd.R_reads' HO.out).1; have := (Kd.R_reads' HO.out).2.1; omega)); rintro e' w9 ⟨v9, rfl, ho, hb⟩; have HO9 := Sd.mk (Kd.R_lower ho HJ.out.size); have HB9 := Sd.mk (below_step HJ.out hb); clear ho hb))
        go_ret
        exact ⟨_, rfl, HO9.out, HB9.out⟩
  · rw [if_neg d3] at h
    cases h
end Go.Proofs.Ytfdkmeokfmgfhaa.X
