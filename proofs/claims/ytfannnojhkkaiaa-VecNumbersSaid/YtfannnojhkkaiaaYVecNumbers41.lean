import Derived.Test.YtfannnojhkkaiaaYVecNumbers40
import Derived.Test.YtfannnojhkkaiaaYVecNumbers23
import Derived.Test.YtfannnojhkkaiaaYVecNumbers22
import Derived.Test.YtfannnojhkkaiaaYVecNumbers21
import Derived.Test.YtfannnojhkkaiaaYVecNumbers11
import Derived.Test.YtfannnojhkkaiaaYVecNumbers35
set_option linter.unusedVariables false
set_option linter.unusedSimpArgs false
namespace Go.Proofs.Ytfannnojhkkaiaa.ConfLib
open Go.RowKit Go.Proofs.Ytfannnojhkkaiaa.V Go.Proofs.YtfannnojhkkaiaaW.PrintWords
def nodesOk (n f : Int) : Prop := 4 ≤ n ∧ n ≤ 13 ∧ 0 ≤ f ∧ f ≤ 4 ∧ 3 * f < n
def delayOk (d : Int) : Prop := 1 ≤ d ∧ d ≤ 4
def numbersOk (f d p r dr o s m fr : Int) : Prop := 6 * (f + 1) * d + 1 ≤ p ∧ p ≤ 400 ∧ 1 ≤ r ∧ r ≤ 64 ∧ 0 ≤ dr ∧ dr ≤ r - 1 ∧ 0 ≤ o ∧ o ≤ 30000 ∧ 1 ≤ s ∧ s ≤ 30000 ∧ 2 ≤ m ∧ m ≤ 250 ∧ 1 ≤ fr ∧ fr ≤ 100
def tableOk (n : Int) (t : List Int) : Prop := 1 ≤ t.length ∧ t.length ≤ 32 ∧ conf_table.ok n t = true
instance (n f : Int) : Decidable (nodesOk n f) := by unfold nodesOk; exact inferInstance
instance (d : Int) : Decidable (delayOk d) := by unfold delayOk; exact inferInstance
instance (f d p r dr o s m fr : Int) : Decidable (numbersOk f d p r dr o s m fr) := by unfold numbersOk; exact inferInstance
instance (n : Int) (t : List Int) : Decidable (tableOk n t) := by unfold tableOk; exact inferInstance
def plain (n f d p r dr o s m fr : Int) (t : List Int) : Int :=
  if nodesOk n f then (if delayOk d then (if numbersOk f d p r dr o s m fr then (if tableOk n t then 0 else 11) else 8) else 10) else 7
theorem wrap_small {n : Int} (h0 : -9223372036854775808 ≤ n) (h1 : n ≤ 9223372036854775807) : wrap64 n = n := by
  unfold wrap64
  omega
end Go.Proofs.Ytfannnojhkkaiaa.ConfLib
