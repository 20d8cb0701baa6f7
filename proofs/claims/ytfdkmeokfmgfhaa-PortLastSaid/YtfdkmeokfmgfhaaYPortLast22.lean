import Derived.Test.YtfdkmeokfmgfhaaYPortLast19
set_option maxHeartbeats 1000000
namespace Go.Proofs.Ytfdkmeokfmgfhaa.X
open Go.RowKit Go.Proofs.YtfdkmeokfmgfhaaW.PrintWords Go.Proofs.YtfdkmeokfmgfhaaW.PrintLast Go.Proofs.YtfdkmeokfmgfhaaW.PrintMore
attribute [local go_sem] max2_int min2_int max_two min_two max_three min_three max_four min_four   -- for this text's walks alone
set_option linter.unusedVariables false
set_option linter.unusedSimpArgs false
theorem port_one_grow.calls (k g o : Nat) (a m r : Int) (cs : Array Value) (t : TypeId) (w : World) (hb : w.heap[g]? = some (.cells cs t (0, 0))) (h : w.cell? ⟨g, o + 2, none⟩ = some (.int .i64 a)) (hs : num_Sat.f k a m = some r) :
    Calls Try.prog 40 #[.pointer (some ⟨g, o, none⟩), .int .i64 m] w fun e w' => ∃ (v : Value) (w1 : World), e = .returned v ∧ Below w.heap.size w w1 ∧ w' = w1.setCell ⟨g, o + 2, none⟩ (.int .i64 r) := by
  have HS := Sd.mk hs
  have HBK := Sd.mk hb
  have HC := Sd.mk h
  clear hs
  go_enter Try.func40, Try.ntmps40
  go_wp2_with (go_at_call 55; refine (num_Sat.calls k a m r _ HS.out).mono ?_; rintro e w1 ⟨rfl, hd⟩; have HB1 := Sd.mk (Drawn0.below hd); clear hd; have hc1 := (blk_below HBK.out HB1.out); have hc2 : w1.cell? ⟨g, o + 2, none⟩ = some (.int .i64 a) := (HB1.out.cell (World.block_lt_of_cell? w _ HC.out)).trans HC.out; have hf := blk_frozen hc1 (o + 2))
  go_end0
  exact ⟨_, w1, rfl, HB1.out, rfl⟩
end Go.Proofs.Ytfdkmeokfmgfhaa.X
