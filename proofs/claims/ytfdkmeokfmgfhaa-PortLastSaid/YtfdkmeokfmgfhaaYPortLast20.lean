import Derived.Test.YtfdkmeokfmgfhaaYPortLast12
set_option maxHeartbeats 1000000
namespace Go.Proofs.Ytfdkmeokfmgfhaa.X
open Go.RowKit Go.Proofs.YtfdkmeokfmgfhaaW.PrintWords Go.Proofs.YtfdkmeokfmgfhaaW.PrintLast Go.Proofs.YtfdkmeokfmgfhaaW.PrintMore
attribute [local go_sem] max2_int min2_int max_two min_two max_three min_three max_four min_four   -- for this text's walks alone
set_option linter.unusedVariables false
set_option linter.unusedSimpArgs false
theorem port_one_take.calls (g o : Nat) (d0 d1 d2 : Int) (d3 : ByteArray) (u0 u1 u2 : Value) (cs : Array Value) (t : TypeId) (w : World) (hb : w.heap[g]? = some (.cells cs t (0, 0))) (h0 : w.cell? ⟨g, o, none⟩ = some u0) (h1 : w.cell? ⟨g, o + 1, none⟩ = some u1) (h2 : w.cell? ⟨g, o + 2, none⟩ = some u2) :
    Calls Try.prog 37 #[.pointer (some ⟨g, o, none⟩), .agg #[.int .i64 d0, .int .i64 d1, .int .i64 d2, .string d3]] w fun e w' => ∃ (v : Value) (w1 : World), e = .returned v ∧ Below w.heap.size w w1 ∧ w' = ((w1.setCell ⟨g, o, none⟩ (.string d3)).setCell ⟨g, o + 1, none⟩ (.int .i64 d2)).setCell ⟨g, o + 2, none⟩ (.int .i64 0) := by
  have hu43 := Try.underlying43
  have hu38 := Try.underlying38
  have HBK := Sd.mk hb
  have H0 := Sd.mk h0
  have H1 := Sd.mk h1
  have H2 := Sd.mk h2
  have HLT := Sd.mk (blk_lt hb)
  clear h0 h1 h2
  go_enter Try.func37, Try.ntmps37
  go_wp2_with ((with_reducible refine gate_dst (N := 3) rfl ?_); refine box_event ?hg (N := 3) ?hd (cs := #[.int .i64 d0, .int .i64 d1, .int .i64 d2, .string d3]) (t := 38) ?hr ?_; (case hd => rfl); (case hg => rfl); (case hr => first | (go_simp; done) | (go_simp; rfl)); intro gb hg wx hbox hbl; have HX := Sd.mk hbl; clear hbl hg; have hb1 := blk_below HBK.out HX.out; have a0 : wx.cell? ⟨g, o, none⟩ = some u0 := (HX.out.cell (World.block_lt_of_cell? w _ H0.out)).trans H0.out; have a1 : wx.cell? ⟨g, o + 1, none⟩ = some u1 := (HX.out.cell (World.block_lt_of_cell? w _ H1.out)).trans H1.out; have a2 : wx.cell? ⟨g, o + 2, none⟩ = some u2 := (HX.out.cell (World.block_lt_of_cell? w _ H2.out)).trans H2.out; have f0 := blk_frozen hb1 o; have f1 := blk_frozen hb1 (o + 1); have f2 := blk_frozen hb1 (o + 2); have b2 : wx.cell? ⟨gb, 2, none⟩ = some (.int .i64 d2) := (blk_cell hbox 2).trans rfl; have b3 : wx.cell? ⟨gb, 3, none⟩ = some (.string d3) := (blk_cell hbox 3).trans rfl; clear hbox hb1 hb)
  go_end0
  exact ⟨_, wx, rfl, HX.out, rfl⟩
end Go.Proofs.Ytfdkmeokfmgfhaa.X
