import Derived.WalkKit
set_option linter.unusedVariables false
set_option linter.unusedSimpArgs false
namespace Go.Proofs.Ythblnnboeikgcaa.KingMath
def cnt (v : Int) (l : List Int) : Int := (l.count v : Nat)
def most (n f : Int) (l : List Int) : Int := if n - f ≤ cnt 1 l then 1 else if n - f ≤ cnt 0 l then 0 else 2
def least (f now : Int) (l : List Int) : Int := if f + 1 ≤ cnt 0 l then 0 else if f + 1 ≤ cnt 1 l then 1 else if f + 1 ≤ cnt 2 l then 2 else now
def told (k : Int) : Int := if k = 1 ∨ k = 2 then 1 else 0
def step (n f : Int) (x : Nat) (b : Int × Bool) (king : Int) (l : List Int) : Int × Bool :=
  if x % 3 = 0 then (most n f l, false)
  else if x % 3 = 1 then (least f b.1 l, decide (n - f ≤ cnt (least f b.1 l) l))
  else if b.1 = 2 ∨ b.2 = false then (told king, false) else (b.1, false)
section
variable (n f : Nat) (hon : Nat → Bool)
def bad : Nat := (List.range n).countP (fun k => !hon k)
variable {n f hon}
variable (hf : bad n hon ≤ f) (hn : 3 * f < n)
include hf hn
end
section
variable {n f : Nat} {hon : Nat → Bool} {s : Nat → Nat → Int × Bool} {vt : Nat → Nat → List Int}
end
end Go.Proofs.Ythblnnboeikgcaa.KingMath
