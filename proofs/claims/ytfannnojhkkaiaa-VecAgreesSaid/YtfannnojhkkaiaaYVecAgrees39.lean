import Derived.Test.YtfannnojhkkaiaaYVecAgrees11
import Derived.Test.YtfannnojhkkaiaaYVecAgrees17
import Derived.Test.YtfannnojhkkaiaaYVecAgrees20
import Derived.Test.YtfannnojhkkaiaaYVecAgrees34
import Derived.Test.YtfannnojhkkaiaaYVecAgrees38
namespace Go.Proofs.Ytfannnojhkkaiaa.V
open Go.RowKit Go.Proofs.YtfannnojhkkaiaaW.PrintWords Go.Proofs.YtfannnojhkkaiaaW.PrintLast Go.Proofs.YtfannnojhkkaiaaW.PrintMore
attribute [local go_sem] max2_int min2_int max_two min_two max_three min_three max_four min_four   -- for this text's walks alone
set_option linter.unusedVariables false
set_option linter.unusedSimpArgs false
mutual
def bellwetherref16_Bits.j0 : Nat → Int → Int → ByteArray → Option (ByteArray)
 | 0, _, _, _ => none
 | k + 1, x0, x1, x5 => bellwetherref16_Bits.l0 k x0 x1 x5 0
def bellwetherref16_Bits.l0 : Nat → Int → Int → ByteArray → Int → Option (ByteArray)
 | 0, _, _, _, _ => none
 | k + 1, x0, x1, x5, x6 => if x6 < x1 then (if x6 < 64 then ((bellwetherref01_Byte.f (wrap64 (48 + (Int.tmod x0 2)))).bind fun t262 => (if x5.size + t262.size ≤ 9223372036854775807 then (bellwetherref16_Bits.l0 k (wrap64 (Int.tdiv x0 2)) x1 (x5 ++ t262) (wrap64 (x6 + 1))) else (none))) else (some x5)) else (some x5)
end
def bellwetherref16_Bits.f (k : Nat) (a0 : Int) (a1 : Int) : Option (ByteArray) := if a0 < 0 then (bellwetherref16_Bits.j0 k 0 a1 (⟨#[]⟩ : ByteArray)) else (bellwetherref16_Bits.j0 k a0 a1 (⟨#[]⟩ : ByteArray))
mutual
def bellwetherlaw16_VecNumbers.j0 : Nat → ByteArray → Int → Int → Bool → Option (Bool)
 | 0, _, _, _, _ => none
 | k + 1, x0, x1, x2, x14 => if x14 = true then ((bellwetherlaw16_known.f k).bind fun t263 => (some t263)) else ((vec_Bits.f k x1 x2).bind fun t264 => ((vec_Number.f k x0).bind fun t265 => ((bellwetherref16_Number.f k x0).bind fun t266 => (if t265 = t266 then ((bellwetherref16_Bits.f k x1 x2).bind fun t267 => (if t264.toList = t267.toList then ((vec_Of.f t264).bind fun t268 => ((vec_Values.f t268).bind fun t269 => (bellwetherlaw16_VecNumbers.j1 k x1 x2 t264 (t269.toList != t264.toList)))) else (bellwetherlaw16_VecNumbers.j1 k x1 x2 t264 true))) else (bellwetherlaw16_VecNumbers.j1 k x1 x2 t264 true)))))
def bellwetherlaw16_VecNumbers.j1 : Nat → Int → Int → ByteArray → Bool → Option (Bool)
 | 0, _, _, _, _ => none
 | k + 1, x1, x2, x7, x37 => if x37 = true then (some false) else (if x1 < 0 then ((bellwetherlaw16_known.f k).bind fun t270 => (some t270)) else (if x1 > 255 then ((bellwetherlaw16_known.f k).bind fun t271 => (some t271)) else (if x2 < 8 then ((bellwetherlaw16_known.f k).bind fun t272 => (some t272)) else ((vec_Number.f k x7).bind fun t273 => (if t273 = x1 then ((bellwetherlaw16_known.f k).bind fun t274 => (some t274)) else (some false))))))
end
def bellwetherlaw16_VecNumbers.f (k : Nat) (a0 : ByteArray) (a1 : Int) (a2 : Int) : Option (Bool) := if (a0.size : Int) > 100 then (bellwetherlaw16_VecNumbers.j0 k a0 a1 a2 true) else (bellwetherlaw16_VecNumbers.j0 k a0 a1 a2 (decide (a2 > 200)))
def bellwetherlaw16_VecNumbers.Pure : Prop := ∀ (a0 : ByteArray) (a1 : Int) (a2 : Int), a0.size ≤ 140737488351232 → (Lit.int .i64 a1).wf = true → (Lit.int .i64 a2).wf = true → ∃ k, bellwetherlaw16_VecNumbers.f k a0 a1 a2 = some true
end Go.Proofs.Ytfannnojhkkaiaa.V
