import Derived.Test.YtfdkmeokfmgfhaaYPortLast17
set_option maxHeartbeats 4000000
set_option maxRecDepth 100000
namespace Go.Proofs.Ytfdkmeokfmgfhaa.X
open Go.RowKit Go.Proofs.YtfdkmeokfmgfhaaW.PrintWords Go.Proofs.YtfdkmeokfmgfhaaW.PrintLast Go.Proofs.YtfdkmeokfmgfhaaW.PrintMore
attribute [local go_sem] max2_int min2_int max_two min_two max_three min_three max_four min_four   -- for this text's walks alone
set_option linter.unusedVariables false
set_option linter.unusedSimpArgs false
theorem port_open.cells {W : World} {g : Nat} {t : TypeId} {c0 c1 c2 c3 c4 c5 c6 c7 c8 c9 c10 : Value} (K : W.heap[g]? = some (.cells #[c0, c1, c2, c3, c4, c5, c6, c7, c8, c9, c10] t (0, 0))) :
    W.cell? ⟨g, 0, none⟩ = some c0 ∧ W.cell? ⟨g, 1, none⟩ = some c1 ∧ W.cell? ⟨g, 2, none⟩ = some c2 ∧ W.cell? ⟨g, 3, none⟩ = some c3 ∧ W.cell? ⟨g, 4, none⟩ = some c4 ∧ W.cell? ⟨g, 5, none⟩ = some c5 ∧ W.cell? ⟨g, 6, none⟩ = some c6 ∧ W.cell? ⟨g, 7, none⟩ = some c7 ∧ W.cell? ⟨g, 8, none⟩ = some c8 ∧ W.cell? ⟨g, 9, none⟩ = some c9 ∧ W.cell? ⟨g, 10, none⟩ = some c10 :=
  ⟨(blk_cell K 0).trans rfl, (blk_cell K 1).trans rfl, (blk_cell K 2).trans rfl, (blk_cell K 3).trans rfl, (blk_cell K 4).trans rfl, (blk_cell K 5).trans rfl, (blk_cell K 6).trans rfl, (blk_cell K 7).trans rfl, (blk_cell K 8).trans rfl, (blk_cell K 9).trans rfl, (blk_cell K 10).trans rfl⟩
theorem port_open.info : (Try.prog.info? 62).map (fun i => (i.zero, i.size, i.bytes)) = some (some (.agg #[(.string ⟨#[]⟩), (.int .i64 0), (.int .i64 0)]), 3, 32) := by kernel_rfl
theorem port_open.step (l : List S43) (j : Nat) (h : j < l.length) : (l.take j).map (fun p => (⟨p⟩ : S62)) ++ [(⟨⟨(rd_T43 l (j : Int)).f0, (rd_T43 l (j : Int)).f1, (rd_T43 l (j : Int)).f2⟩⟩ : S62)] = (l.take (j + 1)).map (fun p => (⟨p⟩ : S62)) := by
  rw [List.take_succ_eq_append_getElem h, List.map_append]
  congr 1
  simp [rd_T43, List.getD_eq_getElem?_getD, h]
def port_open.go (l : List S43) : Option (List S62) := if l.length ≤ 1000000 then some (l.map (fun p => (⟨p⟩ : S62))) else none
def port_open.f (k : Nat) (a0_0 : Int) (a0_1 : Int) (a0_2 : Int) (a0_3 : Int) (a0_4 : Int) (a0_5 : Int) (a0_6 : Int) (a0_7 : Int) (a0_8 : Int) (a0_9 : Int) (l0_10 : List Int) (l1 : List (S43)) : Option ((List (S62))) := if (l1.length : Int) = a0_0 then (conf_Plain.f k a0_0 a0_1 a0_2 a0_3 a0_4 a0_5 a0_6 a0_7 a0_8 a0_9 l0_10).bind fun e => if e = 0 then port_open.go l1 else (port_Blank.f k a0_0 a0_1 a0_2 a0_3 a0_4 a0_5 a0_6 a0_7 a0_8 a0_9 l0_10).bind port_open.go else (port_Blank.f k a0_0 a0_1 a0_2 a0_3 a0_4 a0_5 a0_6 a0_7 a0_8 a0_9 l0_10).bind port_open.go
theorem port_open.mono : ∀ a0 a1 a2 a3 a4 a5 a6 a7 a8 a9 a10 a11 k, LeO (port_open.f k a0 a1 a2 a3 a4 a5 a6 a7 a8 a9 a10 a11) (port_open.f (k + 1) a0 a1 a2 a3 a4 a5 a6 a7 a8 a9 a10 a11) := by
  intro a0 a1 a2 a3 a4 a5 a6 a7 a8 a9 a10 a11 k
  unfold port_open.f
  refine LeO.ite ?_ ?_
  · refine LeO.bind (conf_Plain.mono _ _ _ _ _ _ _ _ _ _ _ _) (fun e => ?_)
    refine LeO.ite (LeO.refl _) ?_
    exact LeO.bind (port_Blank.mono _ _ _ _ _ _ _ _ _ _ _ _) (fun _ => LeO.refl _)
  · exact LeO.bind (port_Blank.mono _ _ _ _ _ _ _ _ _ _ _ _) (fun _ => LeO.refl _)
theorem port_open.calls (k : Nat) (a0_0 : Int) (a0_1 : Int) (a0_2 : Int) (a0_3 : Int) (a0_4 : Int) (a0_5 : Int) (a0_6 : Int) (a0_7 : Int) (a0_8 : Int) (a0_9 : Int) (A0_10 : Option Addr) (c0_10 : Nat) (l0_10 : List Int) (A1 : Option Addr) (c1 : Nat) (l1 : List (S43)) (r : List (S62)) (w : World) (hr0_10 : Kd.C (Kd.int .i64) w A0_10 l0_10.length l0_10) (hc0_10 : l0_10.length ≤ c0_10) (hr1 : Kd.C k43 w A1 l1.length l1) (hc1 : l1.length ≤ c1) (h : port_open.f k a0_0 a0_1 a0_2 a0_3 a0_4 a0_5 a0_6 a0_7 a0_8 a0_9 l0_10 l1 = some r) :
    Calls Try.prog 36 #[.agg #[.int .i64 a0_0, .int .i64 a0_1, .int .i64 a0_2, .int .i64 a0_3, .int .i64 a0_4, .int .i64 a0_5, .int .i64 a0_6, .int .i64 a0_7, .int .i64 a0_8, .int .i64 a0_9, .slice A0_10 l0_10.length c0_10], .slice A1 l1.length c1] w fun e w' => ∃ v0_ : Value, e = .returned (v0_) ∧ Kd.R k62 62 w' w.heap.size (fun _ => True) v0_ r ∧ Below w.heap.size w w' := by
  have hu24 := Try.underlying24
  have hu43 := Try.underlying43
  have hu62 := Try.underlying62
  have HR := Sd.mk hr0_10
  have HC := Sd.mk hc0_10
  have HR1 := Sd.mk hr1
  have HC1 := Sd.mk hc1
  clear hr0_10 hc0_10 hr1 hc1
  unfold port_open.f at h
  by_cases d1 : (l1.length : Int) = a0_0
  · rw [if_pos d1] at h
    have d1b : ((l1.length : Int) != a0_0) = false := bne_eq_false_iff_eq.mpr d1
    obtain ⟨e, hp, h⟩ := Option.bind_eq_some_iff.mp h
    have HP := Sd.mk hp
    clear hp d1
    by_cases d2 : e = 0
    · subst d2
      rw [if_pos rfl] at h
      unfold port_open.go at h
      by_cases d3 : l1.length ≤ 1000000
      · rw [if_pos d3] at h
        obtain rfl := Option.some.inj h
        have HBL := Sd.mk d3
        clear h d3
        go_enter Try.func36, Try.ntmps36
        go_wp2_with (first | (go_at_call 35; (with_reducible refine (conf_Plain.calls k a0_0 a0_1 a0_2 a0_3 a0_4 a0_5 a0_6 a0_7 a0_8 a0_9 _ _ l0_10 0 _ ?side1 ?side2 HP.out).mono ?_); (case side1 => exact Kd.C_alloc HR.out _); (case side2 => exact HC.out); rintro e' w1 ⟨rfl, hb⟩; have K1 := Sd.mk (blk_below (blk_new w _) hb); have HB1 := Sd.mk (below_then (below_alloc (Below.refl _ w) _) (by simp) hb); clear hb; have ⟨q0, q1, q2, q3, q4, q5, q6, q7, q8, q9, q10⟩ := port_open.cells K1.out))
        have HS := Sd.mk (Kd.C_below HR1.out HB1.out)
        have HX := HC1
        go_loopw [5, 22] (fun v5 v22 wr => ∃ j : Nat, v22 = .int .i64 j ∧ j ≤ l1.length ∧ Sd (Kd.R k62 62 wr w1.heap.size (fun _ => True) v5 ((l1.take j).map (fun p => (⟨p⟩ : S62)))) ∧ Sd (Below w1.heap.size w1 wr)) (fun _ i _ => l1.length - (intOf i).toNat)
        case atStart => exact ⟨0, rfl, Nat.zero_le _, ⟨Kd.R_nil _ _ _ _ _⟩, ⟨Below.refl _ _⟩⟩
        case round =>
          obtain ⟨j, rfl, hj, HO, HJ⟩ := hrel
          by_cases hlt : j < l1.length
          · have hltb : decide ((j : Int) < (l1.length : Int)) = true := decide_eq_true (by omega)
            obtain ⟨ad, e, hx0, hx1, hx2⟩ := at_T43 (Kd.C_below HS.out HJ.out) (j : Int) (by omega) (by omega)
            subst e
            have HSt := Sd.mk (port_open.step l1 j hlt)
            rw [Int.toNat_natCast] at hx0 hx1 hx2
            generalize rd_T43 l1 (j : Int) = p at hx0 hx1 hx2 HSt
            have hj0 : (j : Int) < (l1.length : Int) := by omega
            have hjl : j < 1000000 := by have := HBL.out; omega
            have HLN := Sd.mk (show ((l1.take j).map (fun p => (⟨p⟩ : S62))).length ≤ 1000000 from by rw [List.length_map, List.length_take]; have := HBL.out; omega)
            go_wp2_with (first
              | ((with_reducible refine gate_dst (N := 7) rfl ?_); refine box_event ?hg (N := 7) ?hd (cs := #[.string (⟨#[]⟩ : ByteArray), .int .i64 0, .int .i64 0]) (t := 43) ?hr ?_; (case hd => rfl); (case hg => rfl); (case hr => first | (go_simp; done) | (go_simp; rfl)); intro gb hg wx hbox hb; have n0 := Sd.mk (Kd.R_below HO.out hb); have n1 := Sd.mk (below_step HJ.out hb); have BK := Sd.mk hbox; have GE := Sd.mk (show w1.heap.size ≤ gb by rw [hg]; exact HJ.out.size); clear HO HJ hb hbox hg; have HO := n0; have HJ := n1; clear n0 n1; have hz0 : wx.cell? ⟨gb, 0, none⟩ = some (.string (⟨#[]⟩ : ByteArray)) := (blk_cell BK.out 0).trans rfl; have hz1 : wx.cell? ⟨gb, 1, none⟩ = some (.int .i64 0) := (blk_cell BK.out 1).trans rfl; have hz2 : wx.cell? ⟨gb, 2, none⟩ = some (.int .i64 0) := (blk_cell BK.out 2).trans rfl; have hf0 := blk_frozen BK.out 0; have hf1 := blk_frozen BK.out 1; have hf2 := blk_frozen BK.out 2)
              | ((with_reducible refine gate_builtin (b := .append) (xs := #[.tmp 26, .tmp 29]) rfl ?_); at_builtin; refine Kd.R_append k62 (w0 := w1) w1.heap.size rfl (.tmp 26) (.tmp 29) 59 62 (.agg #[(.string ⟨#[]⟩), (.int .i64 0), (.int .i64 0)]) 32 rfl Try.underlying59 port_open.info rfl (by decide) (by omega) u5 ((l1.take j).map (fun p => (⟨p⟩ : S62))) (⟨⟨p.f0, p.f1, p.f2⟩⟩ : S62) [.string p.f0, .int .i64 p.f1, .int .i64 p.f2] (fun _ => True) (fun _ => False) rfl (by first | (go_simp; done) | (go_simp; rfl)) ?aP (fun _ hk => hk.elim) (fun _ _ => trivial) ?aO ?aB ?aS ?aL ?_; (case aP => exact k62_mkM _ _ _ (⟨⟨p.f0, p.f1, p.f2⟩⟩ : S62)); (case aO => exact Kd.R_mono (Kd.R_far (p := ⟨gb, 2, none⟩) (Kd.R_far (p := ⟨gb, 1, none⟩) (Kd.R_far (p := ⟨gb, 0, none⟩) (Kd.R_types HO.out BK.out (by decide)) (fun _ hk => hk.2) (.string p.f0)) (fun _ hk => hk.2) (.int .i64 p.f1)) (fun _ hk => hk.2) (.int .i64 p.f2)) (fun _ _ => trivial)); (case aB => exact ((HJ.out.setCell (p := ⟨gb, 0, none⟩) GE.out _).setCell (p := ⟨gb, 1, none⟩) GE.out _).setCell (p := ⟨gb, 2, none⟩) GE.out _); (case aS => exact (((HJ.out.setCell (p := ⟨gb, 0, none⟩) GE.out (.string p.f0)).setCell (p := ⟨gb, 1, none⟩) GE.out (.int .i64 p.f1)).setCell (p := ⟨gb, 2, none⟩) GE.out (.int .i64 p.f2)).size); (case aL => have := HLN.out; omega); intro v1 w9 ho hb hg hat; have HO9 := Sd.mk ho; have HJ9 := Sd.mk hb; clear ho hb hg hat))
            go_roundw
            case rel => exact ⟨j + 1, by go_num, hlt, ⟨by rw [← HSt.out]; exact HO9.out⟩, HJ9⟩
            case measure => simp [intOf]; omega
          · obtain rfl : j = l1.length := by omega
            have hltb : decide ((l1.length : Int) < (l1.length : Int)) = false := decide_eq_false (by omega)
            go_wp2
            go_ret
            rw [List.take_length] at HO
            exact ⟨_, rfl, Kd.R_lower HO.out HB1.out.size, below_then HB1.out HB1.out.size HJ.out⟩

      · rw [if_neg d3] at h
        cases h
    · rw [if_neg d2] at h
      have d2b : (e != 0) = true := by simpa using d2
      clear d2
      obtain ⟨b, hl, h⟩ := Option.bind_eq_some_iff.mp h
      have HL := Sd.mk hl
      clear hl
      unfold port_open.go at h
      by_cases d3 : b.length ≤ 1000000
      · rw [if_pos d3] at h
        obtain rfl := Option.some.inj h
        have HBL := Sd.mk d3
        clear h d3
        go_enter Try.func36, Try.ntmps36
        go_wp2_with (first | (go_at_call 35; (with_reducible refine (conf_Plain.calls k a0_0 a0_1 a0_2 a0_3 a0_4 a0_5 a0_6 a0_7 a0_8 a0_9 _ _ l0_10 e _ ?side1 ?side2 HP.out).mono ?_); (case side1 => exact Kd.C_alloc HR.out _); (case side2 => exact HC.out); rintro e' w1 ⟨rfl, hb⟩; have K1 := Sd.mk (blk_below (blk_new w _) hb); have HB1 := Sd.mk (below_then (below_alloc (Below.refl _ w) _) (by simp) hb); clear hb; have ⟨q0, q1, q2, q3, q4, q5, q6, q7, q8, q9, q10⟩ := port_open.cells K1.out) | (go_at_call 13; (with_reducible refine (port_Blank.calls k a0_0 a0_1 a0_2 a0_3 a0_4 a0_5 a0_6 a0_7 a0_8 a0_9 _ _ l0_10 b _ ?side1 ?side2 HL.out).mono ?_); (case side1 => exact Kd.C_below HR.out HB1.out); (case side2 => exact HC.out); rintro e' w2 ⟨v0, rfl, ho, hb⟩; obtain ⟨Ax, cx, eo⟩ := Kd.R_slice ho; subst eo; have HS := Sd.mk (Kd.R_reads' ho).2.2; have HX := Sd.mk (Kd.R_reads' ho).2.1; clear ho; have K2 := Sd.mk (blk_below K1.out hb); have HB2 := Sd.mk (below_then HB1.out HB1.out.size hb); clear hb; clear q0 q1 q2 q3 q4 q5 q6 q7 q8 q9 q10; have ⟨q0, q1, q2, q3, q4, q5, q6, q7, q8, q9, q10⟩ := port_open.cells K2.out))
        go_loopw [5, 22] (fun v5 v22 wr => ∃ j : Nat, v22 = .int .i64 j ∧ j ≤ b.length ∧ Sd (Kd.R k62 62 wr w2.heap.size (fun _ => True) v5 ((b.take j).map (fun p => (⟨p⟩ : S62)))) ∧ Sd (Below w2.heap.size w2 wr)) (fun _ i _ => b.length - (intOf i).toNat)
        case atStart => exact ⟨0, rfl, Nat.zero_le _, ⟨Kd.R_nil _ _ _ _ _⟩, ⟨Below.refl _ _⟩⟩
        case round =>
          obtain ⟨j, rfl, hj, HO, HJ⟩ := hrel
          by_cases hlt : j < b.length
          · have hltb : decide ((j : Int) < (b.length : Int)) = true := decide_eq_true (by omega)
            obtain ⟨ad, e, hx0, hx1, hx2⟩ := at_T43 (Kd.C_below HS.out HJ.out) (j : Int) (by omega) (by omega)
            subst e
            have HSt := Sd.mk (port_open.step b j hlt)
            rw [Int.toNat_natCast] at hx0 hx1 hx2
            generalize rd_T43 b (j : Int) = p at hx0 hx1 hx2 HSt
            have hj0 : (j : Int) < (b.length : Int) := by omega
            have hjl : j < 1000000 := by have := HBL.out; omega
            have HLN := Sd.mk (show ((b.take j).map (fun p => (⟨p⟩ : S62))).length ≤ 1000000 from by rw [List.length_map, List.length_take]; have := HBL.out; omega)
            go_wp2_with (first
              | ((with_reducible refine gate_dst (N := 7) rfl ?_); refine box_event ?hg (N := 7) ?hd (cs := #[.string (⟨#[]⟩ : ByteArray), .int .i64 0, .int .i64 0]) (t := 43) ?hr ?_; (case hd => rfl); (case hg => rfl); (case hr => first | (go_simp; done) | (go_simp; rfl)); intro gb hg wx hbox hb; have n0 := Sd.mk (Kd.R_below HO.out hb); have n1 := Sd.mk (below_step HJ.out hb); have BK := Sd.mk hbox; have GE := Sd.mk (show w2.heap.size ≤ gb by rw [hg]; exact HJ.out.size); clear HO HJ hb hbox hg; have HO := n0; have HJ := n1; clear n0 n1; have hz0 : wx.cell? ⟨gb, 0, none⟩ = some (.string (⟨#[]⟩ : ByteArray)) := (blk_cell BK.out 0).trans rfl; have hz1 : wx.cell? ⟨gb, 1, none⟩ = some (.int .i64 0) := (blk_cell BK.out 1).trans rfl; have hz2 : wx.cell? ⟨gb, 2, none⟩ = some (.int .i64 0) := (blk_cell BK.out 2).trans rfl; have hf0 := blk_frozen BK.out 0; have hf1 := blk_frozen BK.out 1; have hf2 := blk_frozen BK.out 2)
              | ((with_reducible refine gate_builtin (b := .append) (xs := #[.tmp 26, .tmp 29]) rfl ?_); at_builtin; refine Kd.R_append k62 (w0 := w2) w2.heap.size rfl (.tmp 26) (.tmp 29) 59 62 (.agg #[(.string ⟨#[]⟩), (.int .i64 0), (.int .i64 0)]) 32 rfl Try.underlying59 port_open.info rfl (by decide) (by omega) u5 ((b.take j).map (fun p => (⟨p⟩ : S62))) (⟨⟨p.f0, p.f1, p.f2⟩⟩ : S62) [.string p.f0, .int .i64 p.f1, .int .i64 p.f2] (fun _ => True) (fun _ => False) rfl (by first | (go_simp; done) | (go_simp; rfl)) ?aP (fun _ hk => hk.elim) (fun _ _ => trivial) ?aO ?aB ?aS ?aL ?_; (case aP => exact k62_mkM _ _ _ (⟨⟨p.f0, p.f1, p.f2⟩⟩ : S62)); (case aO => exact Kd.R_mono (Kd.R_far (p := ⟨gb, 2, none⟩) (Kd.R_far (p := ⟨gb, 1, none⟩) (Kd.R_far (p := ⟨gb, 0, none⟩) (Kd.R_types HO.out BK.out (by decide)) (fun _ hk => hk.2) (.string p.f0)) (fun _ hk => hk.2) (.int .i64 p.f1)) (fun _ hk => hk.2) (.int .i64 p.f2)) (fun _ _ => trivial)); (case aB => exact ((HJ.out.setCell (p := ⟨gb, 0, none⟩) GE.out _).setCell (p := ⟨gb, 1, none⟩) GE.out _).setCell (p := ⟨gb, 2, none⟩) GE.out _); (case aS => exact (((HJ.out.setCell (p := ⟨gb, 0, none⟩) GE.out (.string p.f0)).setCell (p := ⟨gb, 1, none⟩) GE.out (.int .i64 p.f1)).setCell (p := ⟨gb, 2, none⟩) GE.out (.int .i64 p.f2)).size); (case aL => have := HLN.out; omega); intro v1 w9 ho hb hg hat; have HO9 := Sd.mk ho; have HJ9 := Sd.mk hb; clear ho hb hg hat))
            go_roundw
            case rel => exact ⟨j + 1, by go_num, hlt, ⟨by rw [← HSt.out]; exact HO9.out⟩, HJ9⟩
            case measure => simp [intOf]; omega
          · obtain rfl : j = b.length := by omega
            have hltb : decide ((b.length : Int) < (b.length : Int)) = false := decide_eq_false (by omega)
            go_wp2
            go_ret
            rw [List.take_length] at HO
            exact ⟨_, rfl, Kd.R_lower HO.out HB2.out.size, below_then HB2.out HB2.out.size HJ.out⟩

      · rw [if_neg d3] at h
        cases h
  · rw [if_neg d1] at h
    have d1b : ((l1.length : Int) != a0_0) = true := bne_iff_ne.mpr d1
    clear d1
    obtain ⟨b, hl, h⟩ := Option.bind_eq_some_iff.mp h
    have HL := Sd.mk hl
    clear hl
    unfold port_open.go at h
    by_cases d3 : b.length ≤ 1000000
    · rw [if_pos d3] at h
      obtain rfl := Option.some.inj h
      have HBL := Sd.mk d3
      clear h d3
      go_enter Try.func36, Try.ntmps36
      go_wp2_with (first | (go_at_call 13; (with_reducible refine (port_Blank.calls k a0_0 a0_1 a0_2 a0_3 a0_4 a0_5 a0_6 a0_7 a0_8 a0_9 _ _ l0_10 b _ ?side1 ?side2 HL.out).mono ?_); (case side1 => exact Kd.C_alloc HR.out _); (case side2 => exact HC.out); rintro e' w1 ⟨v0, rfl, ho, hb⟩; obtain ⟨Ax, cx, eo⟩ := Kd.R_slice ho; subst eo; have HS := Sd.mk (Kd.R_reads' ho).2.2; have HX := Sd.mk (Kd.R_reads' ho).2.1; clear ho; have K1 := Sd.mk (blk_below (blk_new w _) hb); have HB1 := Sd.mk (below_then (below_alloc (Below.refl _ w) _) (by simp) hb); clear hb; have ⟨q0, q1, q2, q3, q4, q5, q6, q7, q8, q9, q10⟩ := port_open.cells K1.out))
      go_loopw [5, 22] (fun v5 v22 wr => ∃ j : Nat, v22 = .int .i64 j ∧ j ≤ b.length ∧ Sd (Kd.R k62 62 wr w1.heap.size (fun _ => True) v5 ((b.take j).map (fun p => (⟨p⟩ : S62)))) ∧ Sd (Below w1.heap.size w1 wr)) (fun _ i _ => b.length - (intOf i).toNat)
      case atStart => exact ⟨0, rfl, Nat.zero_le _, ⟨Kd.R_nil _ _ _ _ _⟩, ⟨Below.refl _ _⟩⟩
      case round =>
        obtain ⟨j, rfl, hj, HO, HJ⟩ := hrel
        by_cases hlt : j < b.length
        · have hltb : decide ((j : Int) < (b.length : Int)) = true := decide_eq_true (by omega)
          obtain ⟨ad, e, hx0, hx1, hx2⟩ := at_T43 (Kd.C_below HS.out HJ.out) (j : Int) (by omega) (by omega)
          subst e
          have HSt := Sd.mk (port_open.step b j hlt)
          rw [Int.toNat_natCast] at hx0 hx1 hx2
          generalize rd_T43 b (j : Int) = p at hx0 hx1 hx2 HSt
          have hj0 : (j : Int) < (b.length : Int) := by omega
          have hjl : j < 1000000 := by have := HBL.out; omega
          have HLN := Sd.mk (show ((b.take j).map (fun p => (⟨p⟩ : S62))).length ≤ 1000000 from by rw [List.length_map, List.length_take]; have := HBL.out; omega)
          go_wp2_with (first
            | ((with_reducible refine gate_dst (N := 7) rfl ?_); refine box_event ?hg (N := 7) ?hd (cs := #[.string (⟨#[]⟩ : ByteArray), .int .i64 0, .int .i64 0]) (t := 43) ?hr ?_; (case hd => rfl); (case hg => rfl); (case hr => first | (go_simp; done) | (go_simp; rfl)); intro gb hg wx hbox hb; have n0 := Sd.mk (Kd.R_below HO.out hb); have n1 := Sd.mk (below_step HJ.out hb); have BK := Sd.mk hbox; have GE := Sd.mk (show w1.heap.size ≤ gb by rw [hg]; exact HJ.out.size); clear HO HJ hb hbox hg; have HO := n0; have HJ := n1; clear n0 n1; have hz0 : wx.cell? ⟨gb, 0, none⟩ = some (.string (⟨#[]⟩ : ByteArray)) := (blk_cell BK.out 0).trans rfl; have hz1 : wx.cell? ⟨gb, 1, none⟩ = some (.int .i64 0) := (blk_cell BK.out 1).trans rfl; have hz2 : wx.cell? ⟨gb, 2, none⟩ = some (.int .i64 0) := (blk_cell BK.out 2).trans rfl; have hf0 := blk_frozen BK.out 0; have hf1 := blk_frozen BK.out 1; have hf2 := blk_frozen BK.out 2)
            | ((with_reducible refine gate_builtin (b := .append) (xs := #[.tmp 26, .tmp 29]) rfl ?_); at_builtin; refine Kd.R_append k62 (w0 := w1) w1.heap.size rfl (.tmp 26) (.tmp 29) 59 62 (.agg #[(.string ⟨#[]⟩), (.int .i64 0), (.int .i64 0)]) 32 rfl Try.underlying59 port_open.info rfl (by decide) (by omega) u5 ((b.take j).map (fun p => (⟨p⟩ : S62))) (⟨⟨p.f0, p.f1, p.f2⟩⟩ : S62) [.string p.f0, .int .i64 p.f1, .int .i64 p.f2] (fun _ => True) (fun _ => False) rfl (by first | (go_simp; done) | (go_simp; rfl)) ?aP (fun _ hk => hk.elim) (fun _ _ => trivial) ?aO ?aB ?aS ?aL ?_; (case aP => exact k62_mkM _ _ _ (⟨⟨p.f0, p.f1, p.f2⟩⟩ : S62)); (case aO => exact Kd.R_mono (Kd.R_far (p := ⟨gb, 2, none⟩) (Kd.R_far (p := ⟨gb, 1, none⟩) (Kd.R_far (p := ⟨gb, 0, none⟩) (Kd.R_types HO.out BK.out (by decide)) (fun _ hk => hk.2) (.string p.f0)) (fun _ hk => hk.2) (.int .i64 p.f1)) (fun _ hk => hk.2) (.int .i64 p.f2)) (fun _ _ => trivial)); (case aB => exact ((HJ.out.setCell (p := ⟨gb, 0, none⟩) GE.out _).setCell (p := ⟨gb, 1, none⟩) GE.out _).setCell (p := ⟨gb, 2, none⟩) GE.out _); (case aS => exact (((HJ.out.setCell (p := ⟨gb, 0, none⟩) GE.out (.string p.f0)).setCell (p := ⟨gb, 1, none⟩) GE.out (.int .i64 p.f1)).setCell (p := ⟨gb, 2, none⟩) GE.out (.int .i64 p.f2)).size); (case aL => have := HLN.out; omega); intro v1 w9 ho hb hg hat; have HO9 := Sd.mk ho; have HJ9 := Sd.mk hb; clear ho hb hg hat))
          go_roundw
          case rel => exact ⟨j + 1, by go_num, hlt, ⟨by rw [← HSt.out]; exact HO9.out⟩, HJ9⟩
          case measure => simp [intOf]; omega
        · obtain rfl : j = b.length := by omega
          have hltb : decide ((b.length : Int) < (b.length : Int)) = false := decide_eq_false (by omega)
          go_wp2
          go_ret
          rw [List.take_length] at HO
          exact ⟨_, rfl, Kd.R_lower HO.out HB1.out.size, below_then HB1.out HB1.out.size HJ.out⟩

    · rw [if_neg d3] at h
      cases h
end Go.Proofs.Ytfdkmeokfmgfhaa.X
