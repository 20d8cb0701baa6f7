import Derived.RangeFuncNested
import Derived.RangeFuncBound
import Derived.RangeFuncCalls
import Derived.RangeFuncLeaves
import Derived.Shelf.Abstract
import Derived.Shelf.RegionOpen
import Derived.WalkKit
import Derived.OwnWalkIn
import Derived.TacticsInMore
import Derived.LoopNIn
import Derived.LoopIn
import Derived.Maps.AppendAt
import Derived.Test.YtmdnmofcgmmfbaaYTraceReads17
namespace Go.Proofs.Ytmdnmofcgmmfbaa.T
open Go.RowKit Go.Proofs.YtmdnmofcgmmfbaaW.PrintWords Go.Proofs.YtmdnmofcgmmfbaaW.PrintLast Go.Proofs.YtmdnmofcgmmfbaaW.PrintMore
attribute [local go_sem] max2_int min2_int max_two min_two max_three min_three max_four min_four   -- for this text's walks alone
set_option linter.unusedVariables false
set_option linter.unusedSimpArgs false
open Go
attribute [local go_sem] Oper.semAt_some
set_option maxHeartbeats 400000
set_option maxRecDepth 100000
theorem trace_Sent_1.calls (r : S28) (A : Option Addr) (c : Nat) (w : World) : Calls Try.prog 37 #[trace_ticks.val r A c] w fun e w' => e = .returned (.bool (decide (0 < r.f5))) ∧ Below w.heap.size w w' := by
  have hu28 := Try.underlying28
  unfold trace_ticks.val
  have h0 := (blk_cell (blk_new w (.cells #[.bool r.f0, .bool r.f1, .int .i64 r.f2, .int .i64 r.f3, .string r.f4, .int .i64 r.f5, .slice A r.f6.length c] 28)) 5).trans rfl
  go_enter Try.func37, Try.ntmps37
  go_wp2
  go_ret
  exact ⟨rfl, below_alloc (Below.refl _ w) _⟩
end Go.Proofs.Ytmdnmofcgmmfbaa.T
