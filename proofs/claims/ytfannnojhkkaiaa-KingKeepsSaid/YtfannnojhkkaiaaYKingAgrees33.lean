import Derived.Test.YtfannnojhkkaiaaYKingAgrees11
import Derived.Test.YtfannnojhkkaiaaYKingAgrees29
import Derived.Test.YtfannnojhkkaiaaYKingAgrees31
namespace Go.Proofs.Ytfannnojhkkaiaa.X
open Go.RowKit Go.Proofs.YtfannnojhkkaiaaW.PrintWords Go.Proofs.YtfannnojhkkaiaaW.PrintLast Go.Proofs.YtfannnojhkkaiaaW.PrintMore
attribute [local go_sem] max2_int min2_int max_two min_two max_three min_three max_four min_four   -- for this text's walks alone
set_option linter.unusedVariables false
set_option linter.unusedSimpArgs false
def bellwetherref13_Enough.f (k : Nat) (a0_0 : Int) (a0_1 : Int) (a0_2 : Int) (a0_3 : Int) (a0_4 : Int) (a0_5 : Int) (a0_6 : Int) (a0_7 : Int) (a0_8 : Int) (a0_9 : Int) (l0_10 : List Int) (a1 : Int) (l2 : List Int) : Option (Bool) := (bellwetherref03_Plain.f k a0_0 a0_1 a0_2 a0_3 a0_4 a0_5 a0_6 a0_7 a0_8 a0_9 l0_10).bind fun t217 => (if t217 = 0 then ((bellwetherref13_Count.f k a1 l2).bind fun t218 => (some (decide (t218 ≥ (wrap64 (a0_0 - a0_1)))))) else (some false))
def bellwetherref13_Most.f (k : Nat) (a0_0 : Int) (a0_1 : Int) (a0_2 : Int) (a0_3 : Int) (a0_4 : Int) (a0_5 : Int) (a0_6 : Int) (a0_7 : Int) (a0_8 : Int) (a0_9 : Int) (l0_10 : List Int) (l1 : List Int) : Option (Int) := (bellwetherref13_Enough.f k a0_0 a0_1 a0_2 a0_3 a0_4 a0_5 a0_6 a0_7 a0_8 a0_9 l0_10 1 l1).bind fun t220 => (if t220 = true then (some 1) else ((bellwetherref13_Enough.f k a0_0 a0_1 a0_2 a0_3 a0_4 a0_5 a0_6 a0_7 a0_8 a0_9 l0_10 0 l1).bind fun t221 => (if t221 = true then (some 0) else (some 2))))
def bellwetherref13_Least.l0 : Nat → Int → List Int → Int → Int → Int → Int → Int → Int → Int → Int → Int → Int → Int → List Int → Option (Int)
 | 0, _, _, _, _, _, _, _, _, _, _, _, _, _, _ => none
 | k + 1, x1, x2, x7, x223000, x223001, x223002, x223003, x223004, x223005, x223006, x223007, x223008, x223009, x223010 => if x7 < 3 then ((bellwetherref13_Count.f k x7 x2).bind fun t224 => (if t224 > x223001 then (some x7) else (bellwetherref13_Least.l0 k x1 x2 (wrap64 (x7 + 1)) x223000 x223001 x223002 x223003 x223004 x223005 x223006 x223007 x223008 x223009 x223010))) else (some x1)
def bellwetherref13_Least.f (k : Nat) (a0_0 : Int) (a0_1 : Int) (a0_2 : Int) (a0_3 : Int) (a0_4 : Int) (a0_5 : Int) (a0_6 : Int) (a0_7 : Int) (a0_8 : Int) (a0_9 : Int) (l0_10 : List Int) (a1 : Int) (l2 : List Int) : Option (Int) := (bellwetherref03_Plain.f k a0_0 a0_1 a0_2 a0_3 a0_4 a0_5 a0_6 a0_7 a0_8 a0_9 l0_10).bind fun t223 => (if t223 = 0 then (bellwetherref13_Least.l0 k a1 l2 0 a0_0 a0_1 a0_2 a0_3 a0_4 a0_5 a0_6 a0_7 a0_8 a0_9 l0_10) else (some a1))
def bellwetherref14_value.f (a0_0 : Int) (a0_1 : Bool) : Option (Int) := if a0_0 < 0 then (some 2) else (if a0_0 > 2 then (some 2) else (some a0_0))
def bellwetherref01_Mod.f (a0 : Int) (a1 : Int) : Option (Int) := if a1 < 1 then (some 0) else (if a1 = 0 then (none) else (if (Int.tmod a0 a1) < 0 then (some (wrap64 ((Int.tmod a0 a1) + a1))) else (some (Int.tmod a0 a1))))
def bellwetherref14_told.f (a0 : Int) : Option (Int) := if a0 = 1 then (some 1) else (if a0 = 2 then (some 1) else (some 0))
end Go.Proofs.Ytfannnojhkkaiaa.X
