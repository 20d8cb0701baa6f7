import Derived.WalkKit
import Derived.Test.YthblnnboeikgcaaYAgreeTells11
import Derived.Test.YthblnnboeikgcaaYAgreeTells21
section
set_option linter.unusedVariables false
set_option linter.unusedSimpArgs false
namespace Go.Proofs.Ythblnnboeikgcaa.KingMath
def cnt (v : Int) (l : List Int) : Int := (l.count v : Nat)
def most (n f : Int) (l : List Int) : Int := if n - f ≤ cnt 1 l then 1 else if n - f ≤ cnt 0 l then 0 else 2
def least (f now : Int) (l : List Int) : Int := if f + 1 ≤ cnt 0 l then 0 else if f + 1 ≤ cnt 1 l then 1 else if f + 1 ≤ cnt 2 l then 2 else now
def told (k : Int) : Int := if k = 1 ∨ k = 2 then 1 else 0
def step (n f : Int) (x : Nat) (b : Int × Bool) (king : Int) (l : List Int) : Int × Bool :=
  if x % 3 = 0 then (most n f l, false)
  else if x % 3 = 1 then (least f b.1 l, decide (n - f ≤ cnt (least f b.1 l) l))
  else if b.1 = 2 ∨ b.2 = false then (told king, false) else (b.1, false)
section
variable (n f : Nat) (hon : Nat → Bool)
def bad : Nat := (List.range n).countP (fun k => !hon k)
variable {n f hon}
variable (hf : bad n hon ≤ f) (hn : 3 * f < n)
include hf hn
end
section
variable {n f : Nat} {hon : Nat → Bool} {s : Nat → Nat → Int × Bool} {vt : Nat → Nat → List Int}
end
end Go.Proofs.Ythblnnboeikgcaa.KingMath
end
section
namespace Go.Proofs.Ythblnnboeikgcaa.X
open Go.RowKit Go.Proofs.YthblnnboeikgcaaW.PrintWords Go.Proofs.YthblnnboeikgcaaW.PrintLast Go.Proofs.YthblnnboeikgcaaW.PrintMore
attribute [local go_sem] max2_int min2_int max_two min_two max_three min_three max_four min_four   -- for this text's walks alone
set_option linter.unusedVariables false
set_option linter.unusedSimpArgs false
def bellwetherlaw19_Cluster_row.T5 : Bool × List (List Nat × List Nat) := (true, [([], []), ([0], [0]), ([], []), ([], []), ([2, 3], [2, 3]), ([4], [4]), ([5], [5]), ([], []), ([], []), ([7, 8], [7, 8]), ([9], [9]), ([10], [10]), ([1, 6, 11], [1, 6, 11]), ([12], [12]), ([13], [13]), ([13], [13]), ([14, 12, 0, 1, 2, 3, 4, 5, 6, 7, 8, 9, 10, 11, 12, 13, 14], [14]), ([15, 16, 0, 1, 2, 3, 4, 5, 6, 7, 8, 9, 10, 11, 12, 13, 14, 15, 16], [15])])
def bellwetherlaw19_Cluster_row.B5 : List Nat := [0, 1, 0, 0, 12, 28, 60, 0, 0, 384, 896, 1920, 4095, 8191, 16383, 16383, 32767, 131071]
theorem bellwetherlaw19_Cluster_row.tab5 : rtab .any (opsOf Try.f78 5) = bellwetherlaw19_Cluster_row.T5 := by kernel_rfl
theorem bellwetherlaw19_Cluster_row.bits5 : waitsOk bellwetherlaw19_Cluster_row.T5.2 bellwetherlaw19_Cluster_row.B5 = true := by kernel_rfl
end Go.Proofs.Ythblnnboeikgcaa.X
end
