import Derived.Test.YtfannnojhkkaiaaYKingAgrees11
import Derived.Test.YtfannnojhkkaiaaYKingAgrees33
namespace Go.Proofs.Ytfannnojhkkaiaa.X
open Go.RowKit Go.Proofs.YtfannnojhkkaiaaW.PrintWords Go.Proofs.YtfannnojhkkaiaaW.PrintLast Go.Proofs.YtfannnojhkkaiaaW.PrintMore
attribute [local go_sem] max2_int min2_int max_two min_two max_three min_three max_four min_four   -- for this text's walks alone
set_option linter.unusedVariables false
set_option linter.unusedSimpArgs false
def bellwetherref14_Step.f (k : Nat) (a0_0 : Int) (a0_1 : Int) (a0_2 : Int) (a0_3 : Int) (a0_4 : Int) (a0_5 : Int) (a0_6 : Int) (a0_7 : Int) (a0_8 : Int) (a0_9 : Int) (l0_10 : List Int) (a1 : Int) (a2_0 : Int) (a2_1 : Bool) (a3 : Int) (l4 : List Int) : Option (Int × Bool) := (bellwetherref14_value.f a2_0 a2_1).bind fun t229 => ((bellwetherref01_Mod.f a1 3).bind fun t230 => (if t230 = 0 then ((bellwetherref13_Most.f k a0_0 a0_1 a0_2 a0_3 a0_4 a0_5 a0_6 a0_7 a0_8 a0_9 l0_10 l4).bind fun t231 => (some (t231, false))) else ((bellwetherref01_Mod.f a1 3).bind fun t232 => (if t232 = 1 then ((bellwetherref13_Least.f k a0_0 a0_1 a0_2 a0_3 a0_4 a0_5 a0_6 a0_7 a0_8 a0_9 l0_10 t229 l4).bind fun t233 => ((bellwetherref13_Enough.f k a0_0 a0_1 a0_2 a0_3 a0_4 a0_5 a0_6 a0_7 a0_8 a0_9 l0_10 t233 l4).bind fun t234 => (some (t233, t234)))) else (if t229 = 2 then ((bellwetherref14_told.f a3).bind fun t235 => (some (t235, false))) else (if a2_1 = true then (some (t229, false)) else ((bellwetherref14_told.f a3).bind fun t236 => (some (t236, false)))))))))
def bellwetherref14_Code.f (a0_0 : Int) (a0_1 : Bool) : Option (Int) := if a0_1 = true then ((bellwetherref14_value.f a0_0 a0_1).bind fun t238 => (some (wrap64 (t238 + 3)))) else ((bellwetherref14_value.f a0_0 a0_1).bind fun t239 => (some t239))
def bellwetherref14_Read.f (a0 : Int) : Option (Int × Bool) := if a0 < 0 then (some (2, false)) else (if a0 > 5 then (some (2, false)) else (some (Int.tmod a0 3, decide (a0 ≥ 3))))
end Go.Proofs.Ytfannnojhkkaiaa.X
