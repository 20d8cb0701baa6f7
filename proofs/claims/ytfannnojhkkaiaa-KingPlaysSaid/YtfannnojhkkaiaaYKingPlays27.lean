import Derived.Test.YtfannnojhkkaiaaYKingPlays24
import Derived.Test.YtfannnojhkkaiaaYKingPlays12
import Derived.Test.YtfannnojhkkaiaaYKingPlays23
import Derived.Test.YtfannnojhkkaiaaYKingPlays25
namespace Go.Proofs.Ytfannnojhkkaiaa.X
open Go.RowKit Go.Proofs.YtfannnojhkkaiaaW.PrintWords Go.Proofs.YtfannnojhkkaiaaW.PrintLast Go.Proofs.YtfannnojhkkaiaaW.PrintMore
attribute [local go_sem] max2_int min2_int max_two min_two max_three min_three max_four min_four   -- for this text's walks alone
set_option linter.unusedVariables false
set_option linter.unusedSimpArgs false
def king_play_ends.ends (F : List Int) (B : List S52) : List Int := (List.range B.length).map (fun (k : Nat) => if F.contains (k : Int) then -1 else (rd_T52 B (k : Int)).f0)
theorem king_play_ends.ends_len (F : List Int) (B : List S52) : (king_play_ends.ends F B).length = B.length := by simp [king_play_ends.ends]
theorem king_play_ends.ends_at (F : List Int) (B : List S52) {j : Nat} (hj : j < B.length) : (king_play_ends.ends F B).getD j 0 = if F.contains (j : Int) then -1 else (rd_T52 B (j : Int)).f0 := KW.getD_range _ 0 hj
set_option maxHeartbeats 4000000 in
set_option maxRecDepth 100000 in
theorem king_play_ends.calls (k g bl bc : Nat) (c : S24) (F L : List Int) (B : List S52) (AT AB AF AL : Option Addr) (ct cb cf cl : Nat) (w0 w : World) (M : king_play_votes.Mem w0 w g bl bc c F L B AT AB AF AL ct cb cf cl)
    (hB : 1 ≤ B.length ∧ B.length ≤ 13) (hF : F.length ≤ 20) (hk : 20 < k) :
    Calls Try.prog 87 #[.pointer (some ⟨g, 0, none⟩)] w fun e w' => ∃ v, e = .returned v ∧ Kd.R (Kd.int .i64) 3 w' w.heap.size (fun _ => True) v (king_play_ends.ends F B) ∧ Below w.heap.size w w' := by
  have hu52 := Try.underlying52
  have HM := Aside0.mk M
  have HVl := Aside0.mk (king_play_ends.ends_len F B)
  have HVa := Aside0.mk (fun (j : Nat) (hj : j < B.length) => king_play_ends.ends_at F B hj)
  obtain ⟨V, hV⟩ : ∃ V, king_play_ends.ends F B = V := ⟨_, rfl⟩
  rw [hV] at HVl HVa ⊢
  obtain ⟨m, hm⟩ : ∃ m, B.length = m := ⟨_, rfl⟩
  have HBm := Aside0.mk hm
  rw [hm] at HVl HVa
  have m1 : 1 ≤ m := by omega
  have m2 : m ≤ 13 := by omega
  have q11 := HM.out.c11
  rw [hm] at q11
  clear M hB hm hV
  have n1 : (m : Int).toNat * 8 ≤ 281474976710656 := by omega
  go_enter Try.func87, Try.ntmps87
  go_wp2_with ((with_reducible refine gate_dst (N := 11) rfl ?_); refine Kd.R_make (Kd.int .i64) _ 3 rfl (N := 11) rfl 22 _ _ rfl (m : Int) rfl rfl Try.underlying22 (.int .i64 0) 8 info3 rfl (by decide) (by omega) (0 : Int) (ok := fun _ => True) (okp := fun _ => True) rfl (fun _ hk => hk) trivial (Int.natCast_nonneg m) n1 (Below.refl _ _) (Nat.le_refl _) ?_; intro v7 w1 ho hb hg_ hnew_; clear hg_ hnew_; rw [Int.toNat_natCast] at ho; have HO := Aside0.mk ho; obtain ⟨g3, cap, ev, gb, gl, cells7, gh⟩ := Kd.R_form ho (by rw [List.length_replicate]; omega); rw [List.length_replicate] at ev; subst ev; have HB1 := Aside0.mk hb; have GB := Aside0.mk gb; have q := (HM.out.below hb).c11; rw [HBm.out] at q; clear ho hb gb gl gh)
  clear q11 q
  go_loopw [17] (fun v17 wr => ∃ j : Nat, v17 = .int .i64 j ∧ j ≤ m ∧ Aside0 (Kd.R (Kd.int .i64) 3 wr w.heap.size (fun _ => True) (.slice (some ⟨g3, 0, none⟩) m cap) (KW.part 0 V m j)) ∧ Aside0 (Below w.heap.size w wr)) (fun i _ => m - (intOf i).toNat)
  case atStart => exact ⟨0, rfl, Nat.zero_le _, ⟨by rw [KW.part_zero]; exact HO.out⟩, HB1⟩
  case round =>
    clear HO HB1
    obtain ⟨j, rfl, hj, HO, HJ⟩ := hrel
    have HM2 := Aside0.mk (HM.out.below HJ.out)
    by_cases hlt : j < m
    · have hltb : decide ((j : Int) < (m : Int)) = true := decide_eq_true (by omega)
      have HCo := Aside0.mk (king_play_votes.contains_at F (by omega) (j : Int) (k := k) (by omega))
      have HVj := Aside0.mk (HVa.out j hlt)
      have HRd := Aside0.mk (show rd ((KW.part 0 V m j).set j (rd_T52 B (j : Int)).f0) (j : Int) = (rd_T52 B (j : Int)).f0 from by
        have := KW.part_len (z := (0 : Int)) HVl.out hj
        simp [rd, List.getD_eq_getElem?_getD, this, hlt])
      obtain ⟨ad, ea, hb0, hb1⟩ := at_T52 HM2.out.rb (j : Int) (by omega) (by have := HBm.out; omega)
      subst ea
      rw [Int.toNat_natCast] at hb0 hb1
      have hjB : (j : Int) < (B.length : Int) := by have := HBm.out; omega
      have hjm : (j : Int) < (m : Int) := by omega
      by_cases hc : F.contains (j : Int) = true
      · rw [if_pos hc] at HVj
        rw [hc] at HCo
        clear hc
        go_wp2_with (first | ((with_reducible refine gate_dst (N := 5) rfl ?_); refine box_event ?hg (N := 5) ?hd (cs := #[.int .i64 0, .bool false]) (t := 52) ?hr ?_; (case hd => rfl); (case hg => rfl); (case hr => first | (go_simp; done) | (go_simp; rfl)); intro gb hg wx hbox hb; have BK := Aside0.mk hbox; have GX := Aside0.mk (show wr.heap.size ≤ gb by rw [hg]; exact Nat.le_refl _); have HBx := Aside0.mk hb; clear hb hbox hg; have hz0 : wx.cell? ⟨gb, 0, none⟩ = some (.int .i64 0) := (blk_cell BK.out 0).trans rfl; have hz1 : wx.cell? ⟨gb, 1, none⟩ = some (.bool false) := (blk_cell BK.out 1).trans rfl; have hf0 := blk_frozen BK.out 0; have hf1 := blk_frozen BK.out 1) | ((with_reducible refine gate_store (t := 52) (p := 5) rfl ?_); refine store_event (t := 52) (p := 5) (v := ?vo) (w1 := (wx.setCell ⟨gb, 0, none⟩ (.int .i64 (rd_T52 B (j : Int)).f0)).setCell ⟨gb, 1, none⟩ (.bool (rd_T52 B (j : Int)).f1)) ?hg ?ho ?hn ?hr ?_; (case ho => rfl); (case hg => rfl); (case hn => rfl); (case hr => first | (go_simp; done) | (go_simp; rfl)); intro wz hw; have HBy : Aside0 (Below wr.heap.size wr wz) := ⟨by rw [hw]; exact (HBx.out.setCell (p := ⟨gb, 0, none⟩) GX.out (.int .i64 (rd_T52 B (j : Int)).f0)).setCell (p := ⟨gb, 1, none⟩) GX.out (.bool (rd_T52 B (j : Int)).f1)⟩; have BK2 : Aside0 (wz.heap[gb]? = some (.cells #[(.int .i64 (rd_T52 B (j : Int)).f0), (.bool (rd_T52 B (j : Int)).f1)] 52 (0, 0))) := ⟨by rw [hw]; exact blk_put (blk_put BK.out 0 (.int .i64 (rd_T52 B (j : Int)).f0) rfl) 1 (.bool (rd_T52 B (j : Int)).f1) rfl⟩; clear hw BK hz0 hz1 hf0 hf1; have hy0 : wz.cell? ⟨gb, 0, none⟩ = some (.int .i64 (rd_T52 B (j : Int)).f0) := (blk_cell BK2.out 0).trans rfl; have HO2 := Aside0.mk (Kd.R_below HO.out HBy.out); have HJ2 := Aside0.mk (below_step HJ.out HBy.out); obtain ⟨hz, hf⟩ := KW.get_int HO2.out (KW.part_len HVl.out hj) hlt; have HO3 := Aside0.mk (KW.put_int HO2.out (KW.part_len HVl.out hj) j (rd_T52 B (j : Int)).f0); have HJ3 := Aside0.mk (HJ2.out.setCell (p := ⟨g3, j, none⟩) GB.out (.int .i64 (rd_T52 B (j : Int)).f0)); have HM3 := Aside0.mk (HM2.out.below HBy.out); have hq12 : (wz.setCell ⟨g3, j, none⟩ (.int .i64 (rd_T52 B (j : Int)).f0)).cell? ⟨g, 12, none⟩ = some (.slice AF F.length cf) := (HJ3.out.cell (p := ⟨g, 12, none⟩) (blk_lt HM.out.blk)).trans HM.out.c12; obtain ⟨hz3, hf3⟩ := KW.get_int HO3.out (by rw [List.length_set]; exact KW.part_len HVl.out hj) hlt; rw [HRd.out] at hz3) | (go_at_call 94; (with_reducible refine (slices_Contains_int_int.calls k _ _ F (j : Int) true _ ?side1 ?side2 HCo.out).mono ?_); (case side1 => exact Kd.C_below HM.out.rf HJ3.out); (case side2 => exact HM.out.hf); rintro e' w2 ⟨rfl, hd⟩; obtain ⟨⟨nd, rfl⟩⟩ := hd))
        go_roundw
        case rel => exact ⟨j + 1, by go_num, hlt, ⟨by rw [← KW.part_put HVl.out hlt HVj.out, ← List.set_set (a := (rd_T52 B (j : Int)).f0)]; exact KW.put_int (Kd.R_drewN HO3.out nd) (by rw [List.length_set]; exact KW.part_len HVl.out hj) j _⟩, ⟨(pw_below_drewN HJ3.out nd).setCell (p := ⟨g3, j, none⟩) GB.out _⟩⟩
        case measure => simp [intOf]; omega
      · rw [if_neg hc] at HVj
        have hcf : F.contains (j : Int) = false := by simpa using hc
        rw [hcf] at HCo
        clear hc hcf
        go_wp2_with (first | ((with_reducible refine gate_dst (N := 5) rfl ?_); refine box_event ?hg (N := 5) ?hd (cs := #[.int .i64 0, .bool false]) (t := 52) ?hr ?_; (case hd => rfl); (case hg => rfl); (case hr => first | (go_simp; done) | (go_simp; rfl)); intro gb hg wx hbox hb; have BK := Aside0.mk hbox; have GX := Aside0.mk (show wr.heap.size ≤ gb by rw [hg]; exact Nat.le_refl _); have HBx := Aside0.mk hb; clear hb hbox hg; have hz0 : wx.cell? ⟨gb, 0, none⟩ = some (.int .i64 0) := (blk_cell BK.out 0).trans rfl; have hz1 : wx.cell? ⟨gb, 1, none⟩ = some (.bool false) := (blk_cell BK.out 1).trans rfl; have hf0 := blk_frozen BK.out 0; have hf1 := blk_frozen BK.out 1) | ((with_reducible refine gate_store (t := 52) (p := 5) rfl ?_); refine store_event (t := 52) (p := 5) (v := ?vo) (w1 := (wx.setCell ⟨gb, 0, none⟩ (.int .i64 (rd_T52 B (j : Int)).f0)).setCell ⟨gb, 1, none⟩ (.bool (rd_T52 B (j : Int)).f1)) ?hg ?ho ?hn ?hr ?_; (case ho => rfl); (case hg => rfl); (case hn => rfl); (case hr => first | (go_simp; done) | (go_simp; rfl)); intro wz hw; have HBy : Aside0 (Below wr.heap.size wr wz) := ⟨by rw [hw]; exact (HBx.out.setCell (p := ⟨gb, 0, none⟩) GX.out (.int .i64 (rd_T52 B (j : Int)).f0)).setCell (p := ⟨gb, 1, none⟩) GX.out (.bool (rd_T52 B (j : Int)).f1)⟩; have BK2 : Aside0 (wz.heap[gb]? = some (.cells #[(.int .i64 (rd_T52 B (j : Int)).f0), (.bool (rd_T52 B (j : Int)).f1)] 52 (0, 0))) := ⟨by rw [hw]; exact blk_put (blk_put BK.out 0 (.int .i64 (rd_T52 B (j : Int)).f0) rfl) 1 (.bool (rd_T52 B (j : Int)).f1) rfl⟩; clear hw BK hz0 hz1 hf0 hf1; have hy0 : wz.cell? ⟨gb, 0, none⟩ = some (.int .i64 (rd_T52 B (j : Int)).f0) := (blk_cell BK2.out 0).trans rfl; have HO2 := Aside0.mk (Kd.R_below HO.out HBy.out); have HJ2 := Aside0.mk (below_step HJ.out HBy.out); obtain ⟨hz, hf⟩ := KW.get_int HO2.out (KW.part_len HVl.out hj) hlt; have HO3 := Aside0.mk (KW.put_int HO2.out (KW.part_len HVl.out hj) j (rd_T52 B (j : Int)).f0); have HJ3 := Aside0.mk (HJ2.out.setCell (p := ⟨g3, j, none⟩) GB.out (.int .i64 (rd_T52 B (j : Int)).f0)); have HM3 := Aside0.mk (HM2.out.below HBy.out); have hq12 : (wz.setCell ⟨g3, j, none⟩ (.int .i64 (rd_T52 B (j : Int)).f0)).cell? ⟨g, 12, none⟩ = some (.slice AF F.length cf) := (HJ3.out.cell (p := ⟨g, 12, none⟩) (blk_lt HM.out.blk)).trans HM.out.c12; obtain ⟨hz3, hf3⟩ := KW.get_int HO3.out (by rw [List.length_set]; exact KW.part_len HVl.out hj) hlt; rw [HRd.out] at hz3) | (go_at_call 94; (with_reducible refine (slices_Contains_int_int.calls k _ _ F (j : Int) false _ ?side1 ?side2 HCo.out).mono ?_); (case side1 => exact Kd.C_below HM.out.rf HJ3.out); (case side2 => exact HM.out.hf); rintro e' w2 ⟨rfl, hd⟩; obtain ⟨⟨nd, rfl⟩⟩ := hd))
        go_roundw
        case rel => exact ⟨j + 1, by go_num, hlt, ⟨by rw [← KW.part_put HVl.out hlt HVj.out]; exact Kd.R_drewN HO3.out nd⟩, ⟨pw_below_drewN HJ3.out nd⟩⟩
        case measure => simp [intOf]; omega
    · obtain rfl : j = m := by omega
      have hltb : decide ((j : Int) < (j : Int)) = false := decide_eq_false (by omega)
      have HE := Aside0.mk (KW.part_all (z := (0 : Int)) HVl.out)
      rw [HE.out] at HO
      go_wp2
      go_ret
      exact ⟨_, rfl, HO.out, HJ.out⟩
end Go.Proofs.Ytfannnojhkkaiaa.X
