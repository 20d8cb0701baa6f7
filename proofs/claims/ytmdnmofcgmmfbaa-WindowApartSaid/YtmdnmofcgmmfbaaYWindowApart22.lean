import Derived.Test.YtmdnmofcgmmfbaaYWindowApart13
import Derived.Test.YtmdnmofcgmmfbaaYWindowApart16
namespace Go.Proofs.Ytmdnmofcgmmfbaa.X
open Go.RowKit Go.Proofs.YtmdnmofcgmmfbaaW.PrintWords Go.Proofs.YtmdnmofcgmmfbaaW.PrintLast Go.Proofs.YtmdnmofcgmmfbaaW.PrintMore
attribute [local go_sem] max2_int min2_int max_two min_two max_three min_three max_four min_four   -- for this text's walks alone
set_option linter.unusedVariables false
set_option linter.unusedSimpArgs false
def bellwetherref37_Common.l0 : Nat → List (List (S28)) → List Int → Int → Int → Option (Bool)
 | 0, _, _, _, _ => none
 | k + 1, x0, x1, x2, x7 => if x7 < (x1.length : Int) then (if 0 ≤ x7 then ((bellwetherref36_At.f x0 x2 (rd x1 x7)).bind fun bt394 => (if 0 < (x1.length : Int) then ((bellwetherref36_At.f x0 x2 (rd x1 0)).bind fun bt404 => (if (bt394.1 != bt404.1) = true then (some false) else (bellwetherref37_Common.l0 k x0 x1 x2 (wrap64 (x7 + 1))))) else (none))) else (none)) else (some true)
def bellwetherref37_Common.f (k : Nat) (l0 : List (List (S28))) (l1 : List Int) (a2 : Int) : Option (Bool) := bellwetherref37_Common.l0 k l0 l1 a2 0
theorem bellwetherref37_Common.fld28_0 (v0 v1 v2 v3 v4 v5 v6 : Value) (w : World) : (Instr.field 28 (.agg #[v0, v1, v2, v3, v4, v5, v6]) 0).run Try.prog w = .ok (v0) w := by kernel_rfl
attribute [local go_sem] bellwetherref37_Common.fld28_0
def bellwetherref37_Common.T4 : Bool × List (List Nat × List Nat) := (true, [([], []), ([], []), ([], []), ([], []), ([2, 3], [2, 3]), ([4], [4]), ([0, 1, 5], [0, 1, 5]), ([6], [6]), ([], []), ([], []), ([], []), ([10], [10]), ([11], [11]), ([8, 9, 12, 6], [8, 9, 12]), ([13], [13]), ([7, 14], [7, 14])])
def bellwetherref37_Common.B4 : List Nat := [0, 0, 0, 0, 12, 28, 63, 127, 0, 0, 0, 1024, 3072, 8063, 16255, 32767]
theorem bellwetherref37_Common.tab4 : rtab .any (opsOf Try.f27 4) = bellwetherref37_Common.T4 := by kernel_rfl
theorem bellwetherref37_Common.bits4 : waitsOk bellwetherref37_Common.T4.2 bellwetherref37_Common.B4 = true := by kernel_rfl
def bellwetherref03_within.f (a0 : Int) (a1 : Int) (a2 : Int) : Option (Bool) := if a0 ≥ a1 then (some (decide (a0 ≤ a2))) else (some false)
set_option maxHeartbeats 8000000 in
set_option maxRecDepth 100000 in
theorem bellwetherref03_within.calls (a0 : Int) (a1 : Int) (a2 : Int) (r : Bool) (w : World) (h : bellwetherref03_within.f a0 a1 a2 = some r) :
  Calls Try.prog 44 #[.int .i64 a0, .int .i64 a1, .int .i64 a2] w fun e w' => e = .returned (.bool r) ∧ Drawn0 w w' := by
 have H : (if a0 ≥ a1 then (some (decide (a0 ≤ a2))) else (some false)) = some r := h
 clear h
 by_cases c4 : a0 ≥ a1
 ·
  rw [if_pos c4] at H
  have c4b0 : decide (a1 ≤ a0) = true := decide_eq_true c4
  clear c4
  obtain rfl := Option.some.inj H
  go_enter Try.func44, Try.ntmps44
  go_wp2
  go_ret
  exact ⟨by first | rfl | (simp; done) | (simp [*]; done), by repeat (first | exact Drawn0.refl _ | apply Drawn0.step)⟩
 ·
  rw [if_neg c4] at H
  have c4b0 : decide (a1 ≤ a0) = false := decide_eq_false c4
  clear c4
  obtain rfl := Option.some.inj H
  go_enter Try.func44, Try.ntmps44
  go_wp2
  go_ret
  exact ⟨by first | rfl | (simp; done) | (simp [*]; done), by repeat (first | exact Drawn0.refl _ | apply Drawn0.step)⟩
end Go.Proofs.Ytmdnmofcgmmfbaa.X
