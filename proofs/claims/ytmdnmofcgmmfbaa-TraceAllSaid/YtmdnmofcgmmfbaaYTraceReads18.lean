import Derived.Test.YtmdnmofcgmmfbaaYTraceReads15
import Derived.Test.YtmdnmofcgmmfbaaYTraceReads16
import Derived.RangeFuncNested
import Derived.RangeFuncBound
import Derived.RangeFuncCalls
import Derived.RangeFuncLeaves
import Derived.Shelf.Abstract
import Derived.Shelf.RegionOpen
import Derived.WalkKit
import Derived.OwnWalkIn
import Derived.TacticsInMore
import Derived.LoopNIn
import Derived.LoopIn
import Derived.Maps.AppendAt
import Derived.Test.YtmdnmofcgmmfbaaYTraceReads13
namespace Go.Proofs.Ytmdnmofcgmmfbaa.T
open Go.RowKit Go.Proofs.YtmdnmofcgmmfbaaW.PrintWords Go.Proofs.YtmdnmofcgmmfbaaW.PrintLast Go.Proofs.YtmdnmofcgmmfbaaW.PrintMore
attribute [local go_sem] max2_int min2_int max_two min_two max_three min_three max_four min_four   -- for this text's walks alone
set_option linter.unusedVariables false
set_option linter.unusedSimpArgs false
open Go
attribute [local go_sem] Oper.semAt_some
set_option maxHeartbeats 400000
set_option maxRecDepth 100000
theorem trace_ticks.calls (A0 : Option Addr) (c0 n0 : Nat) (node fr to_ : Int) (w : World) :
    Calls Try.prog 38 #[.slice A0 n0 c0, .int .i64 node, .int .i64 fr, .int .i64 to_] w fun e w' => e = .returned (.func (.func 46) #[] #[.pointer (some ⟨w.heap.size + 2, 0, none⟩), .pointer (some ⟨w.heap.size + 3, 0, none⟩), .pointer (some ⟨w.heap.size, 0, none⟩), .pointer (some ⟨w.heap.size + 1, 0, none⟩)]) ∧
      w'.heap.size = w.heap.size + 4 ∧ w'.cell? ⟨w.heap.size + 2, 0, none⟩ = some (.int .i64 fr) ∧ w'.cell? ⟨w.heap.size + 3, 0, none⟩ = some (.int .i64 to_) ∧ w'.cell? ⟨w.heap.size, 0, none⟩ = some (.slice A0 n0 c0) ∧ w'.cell? ⟨w.heap.size + 1, 0, none⟩ = some (.int .i64 node) ∧ Below w.heap.size w w' := by
  go_enter Try.func38, Try.ntmps38
  go_wp2
  go_ret
  have h1 := blk_alloc (blk_alloc (blk_alloc (blk_new w (.cells #[.slice A0 n0 c0] 22)) (.cells #[.int .i64 node] 3)) (.cells #[.int .i64 fr] 3)) (.cells #[.int .i64 to_] 3)
  have h2 := blk_alloc (blk_alloc (blk_new (w.alloc (.cells #[.slice A0 n0 c0] 22)) (.cells #[.int .i64 node] 3)) (.cells #[.int .i64 fr] 3)) (.cells #[.int .i64 to_] 3)
  have h3 := blk_alloc (blk_new ((w.alloc (.cells #[.slice A0 n0 c0] 22)).alloc (.cells #[.int .i64 node] 3)) (.cells #[.int .i64 fr] 3)) (.cells #[.int .i64 to_] 3)
  have h4 := blk_new (((w.alloc (.cells #[.slice A0 n0 c0] 22)).alloc (.cells #[.int .i64 node] 3)).alloc (.cells #[.int .i64 fr] 3)) (.cells #[.int .i64 to_] 3)
  simp only [World.size_alloc] at h2 h3 h4
  exact ⟨rfl, by simp [World.size_alloc], (blk_cell h3 0).trans rfl, (blk_cell h4 0).trans rfl, (blk_cell h1 0).trans rfl, (blk_cell h2 0).trans rfl, by repeat (first | exact Below.refl _ _ | apply below_alloc)⟩
end Go.Proofs.Ytmdnmofcgmmfbaa.T
