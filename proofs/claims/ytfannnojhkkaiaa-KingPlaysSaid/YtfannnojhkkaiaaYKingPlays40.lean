import Derived.Test.YtfannnojhkkaiaaYKingPlays12
import Derived.Test.YtfannnojhkkaiaaYKingPlays29
import Derived.Test.YtfannnojhkkaiaaYKingPlays13
import Derived.Test.YtfannnojhkkaiaaYKingPlays23
import Derived.Test.YtfannnojhkkaiaaYKingPlays30
import Derived.Test.YtfannnojhkkaiaaYKingPlays35
namespace Go.Proofs.Ytfannnojhkkaiaa.X
open Go.RowKit Go.Proofs.YtfannnojhkkaiaaW.PrintWords Go.Proofs.YtfannnojhkkaiaaW.PrintLast Go.Proofs.YtfannnojhkkaiaaW.PrintMore
attribute [local go_sem] max2_int min2_int max_two min_two max_three min_three max_four min_four   -- for this text's walks alone
set_option linter.unusedVariables false
set_option linter.unusedSimpArgs false
attribute [local go_sem high] eqA52
def bellwetherlaw14_KingSteps.j0 : Nat → Int → List Int → Int → Int → Int → Int → Int → Int → Int → Int → Int → Int → Int → List Int → Int → Bool → Option (Bool)
 | 0, _, _, _, _, _, _, _, _, _, _, _, _, _, _, _, _ => none
 | k + 1, x1, x3, x9, x242000, x242001, x242002, x242003, x242004, x242005, x242006, x242007, x242008, x242009, x242010, x243000, x243001 => (king_Start.f x1).bind fun bt245 => ((bellwetherref14_Start.f x1).bind fun bt247 => (if (bt245.1 == bt247.1 && (bt245.2 == bt247.2)) = true then ((king_Step.f k x242000 x242001 x242002 x242003 x242004 x242005 x242006 x242007 x242008 x242009 x242010 x1 x243000 x243001 x9 x3).bind fun bt249 => ((bellwetherref14_Step.f k x242000 x242001 x242002 x242003 x242004 x242005 x242006 x242007 x242008 x242009 x242010 x1 x243000 x243001 x9 x3).bind fun bt251 => (if (bt249.1 == bt251.1 && (bt249.2 == bt251.2)) = true then ((king_Code.f x243000 x243001).bind fun t253 => ((bellwetherref14_Code.f x243000 x243001).bind fun t254 => (if t253 = t254 then ((king_Read.f x1).bind fun bt255 => ((bellwetherref14_Read.f x1).bind fun bt257 => (if (bt255.1 == bt257.1 && (bt255.2 == bt257.2)) = true then (if x243000 < 0 then ((bellwetherlaw14_known.f k).bind fun t259 => (some t259)) else (if x243000 > 2 then ((bellwetherlaw14_known.f k).bind fun t260 => (some t260)) else ((king_Code.f x243000 x243001).bind fun t261 => ((king_Read.f t261).bind fun bt262 => (if (bt262.1 == x243000 && (bt262.2 == x243001)) = true then ((bellwetherlaw14_known.f k).bind fun t264 => (some t264)) else (some false)))))) else (some false)))) else (some false)))) else (some false)))) else (some false)))
def bellwetherlaw14_KingSteps.f (k : Nat) (a0_0 : Int) (a0_1 : Int) (a0_2 : Int) (a0_3 : Int) (a0_4 : Int) (a0_5 : Int) (a0_6 : Int) (a0_7 : Int) (a0_8 : Int) (a0_9 : Int) (l0_10 : List Int) (a1 : Int) (a2_0 : Int) (a2_1 : Bool) (l3 : List Int) : Option (Bool) := if (l3.length : Int) > 60 then ((bellwetherlaw14_known.f k).bind fun t243 => (some t243)) else (if (l3.length : Int) > 0 then (if 0 < (l3.length : Int) then (bellwetherlaw14_KingSteps.j0 k a1 l3 (rd l3 0) a0_0 a0_1 a0_2 a0_3 a0_4 a0_5 a0_6 a0_7 a0_8 a0_9 l0_10 a2_0 a2_1) else (none)) else (bellwetherlaw14_KingSteps.j0 k a1 l3 (-1) a0_0 a0_1 a0_2 a0_3 a0_4 a0_5 a0_6 a0_7 a0_8 a0_9 l0_10 a2_0 a2_1))
end Go.Proofs.Ytfannnojhkkaiaa.X
