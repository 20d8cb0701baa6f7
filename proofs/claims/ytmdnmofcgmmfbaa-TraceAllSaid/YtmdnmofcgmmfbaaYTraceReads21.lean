import Derived.Test.YtmdnmofcgmmfbaaYTraceReads19
import Derived.Test.YtmdnmofcgmmfbaaYTraceReads20
set_option maxHeartbeats 4000000
set_option maxRecDepth 100000
namespace Go.Proofs.Ytmdnmofcgmmfbaa.T
open Go.RowKit Go.Proofs.YtmdnmofcgmmfbaaW.PrintWords Go.Proofs.YtmdnmofcgmmfbaaW.PrintLast Go.Proofs.YtmdnmofcgmmfbaaW.PrintMore
attribute [local go_sem] max2_int min2_int max_two min_two max_three min_three max_four min_four   -- for this text's walks alone
set_option linter.unusedVariables false
set_option linter.unusedSimpArgs false
open Go
def trace_Pulses.f (l0 : List (List (S28))) (a1 : Int) : Option (List Int) := if l0.length ≤ 1000000 then some (trace_when.picks (fun r => r.f0) l0 a1 l0.length) else none
theorem trace_Pulses.calls (A0 : Option Addr) (c0 : Nat) (l0 : List (List (S28))) (a1 : Int) (r : List Int) (w : World) (hr0 : Kd.C (Kd.slice 28 k28) w A0 l0.length l0) (hc0 : l0.length ≤ c0) (h : trace_Pulses.f l0 a1 = some r) :
    Calls Try.prog 15 #[.slice A0 l0.length c0, .int .i64 a1] w fun e w' => ∃ v0_ : Value, e = .returned (v0_) ∧ Kd.R (Kd.int .i64) 3 w' w.heap.size (fun _ => True) v0_ r ∧ Below w.heap.size w w' := by
  unfold trace_Pulses.f at h
  by_cases hl : l0.length ≤ 1000000
  case neg => rw [if_neg hl] at h; cases h
  rw [if_pos hl] at h
  obtain rfl := Option.some.inj h
  have HR := Sd.mk hr0
  have HE : Sd (∀ (args : Array Value) (w : World), (callFunc 36 args).run Try.prog w = .ok (.enter 36 args) w) := ⟨enters_of Try.func36 (by kernel_rfl) rfl⟩
  clear h hr0
  go_enter Try.func15, Try.ntmps15
  go_wp2_with (first | (go_at_call 35; (with_reducible refine (trace_when.calls 36 (fun r => r.f0) HE.out trace_Pulses_1.calls A0 c0 l0 a1 _ HR.out hl).mono ?_); rintro e' w1 ⟨v, rfl, hown, hb⟩))
  go_ret
  exact ⟨_, rfl, Kd.R_of_own hown (fun _ _ => trivial), hb⟩
end Go.Proofs.Ytmdnmofcgmmfbaa.T
