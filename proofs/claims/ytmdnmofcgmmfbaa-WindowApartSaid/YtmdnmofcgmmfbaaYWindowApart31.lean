import Derived.Test.YtmdnmofcgmmfbaaYWindowApart13
import Derived.Test.YtmdnmofcgmmfbaaYWindowApart16
import Derived.Test.YtmdnmofcgmmfbaaYWindowApart22
import Derived.Test.YtmdnmofcgmmfbaaYWindowApart24
namespace Go.Proofs.Ytmdnmofcgmmfbaa.X
open Go.RowKit Go.Proofs.YtmdnmofcgmmfbaaW.PrintWords Go.Proofs.YtmdnmofcgmmfbaaW.PrintLast Go.Proofs.YtmdnmofcgmmfbaaW.PrintMore
attribute [local go_sem] max2_int min2_int max_two min_two max_three min_three max_four min_four   -- for this text's walks alone
set_option linter.unusedVariables false
set_option linter.unusedSimpArgs false
mutual
def bellwetherref37_Regular.l0 : Nat → List (List (S28)) → List Int → Int → Int → Int → Int → Int → Int → Int → Int → Int → Int → Int → Int → List Int → Option (Int)
 | 0, _, _, _, _, _, _, _, _, _, _, _, _, _, _, _ => none
 | k + 1, x1, x2, x9, x10, x431000, x431001, x431002, x431003, x431004, x431005, x431006, x431007, x431008, x431009, x431010 => if x10 < (x1.length : Int) then ((bellwetherref37_Common.f k x1 x2 x10).bind fun t433 => (if t433 = true then (bellwetherref37_Regular.l0 k x1 x2 x9 (wrap64 (x10 + 1)) x431000 x431001 x431002 x431003 x431004 x431005 x431006 x431007 x431008 x431009 x431010) else (some 7))) else (bellwetherref37_Regular.l1 k x1 x2 x9 (-1) x9 x431000 x431001 x431002 x431003 x431004 x431005 x431006 x431007 x431008 x431009 x431010)
def bellwetherref37_Regular.l1 : Nat → List (List (S28)) → List Int → Int → Int → Int → Int → Int → Int → Int → Int → Int → Int → Int → Int → Int → List Int → Option (Int)
 | 0, _, _, _, _, _, _, _, _, _, _, _, _, _, _, _, _ => none
 | k + 1, x1, x2, x9, x11, x12, x431000, x431001, x431002, x431003, x431004, x431005, x431006, x431007, x431008, x431009, x431010 => if x12 < (x1.length : Int) then (if 0 < (x2.length : Int) then ((bellwetherref36_At.f x1 x12 (rd x2 0)).bind fun bt435 => (if bt435.1 = true then (if x11 ≥ 0 then (if (wrap64 (x12 - x11)) < x431003 then (some 13) else (bellwetherref37_Regular.l1 k x1 x2 x9 x12 (wrap64 (x12 + 1)) x431000 x431001 x431002 x431003 x431004 x431005 x431006 x431007 x431008 x431009 x431010)) else (bellwetherref37_Regular.l1 k x1 x2 x9 x12 (wrap64 (x12 + 1)) x431000 x431001 x431002 x431003 x431004 x431005 x431006 x431007 x431008 x431009 x431010)) else (bellwetherref37_Regular.l1 k x1 x2 x9 x11 (wrap64 (x12 + 1)) x431000 x431001 x431002 x431003 x431004 x431005 x431006 x431007 x431008 x431009 x431010))) else (none)) else (bellwetherref37_Regular.l2 k x1 x2 x9 x431000 x431001 x431002 x431003 x431004 x431005 x431006 x431007 x431008 x431009 x431010)
def bellwetherref37_Regular.l2 : Nat → List (List (S28)) → List Int → Int → Int → Int → Int → Int → Int → Int → Int → Int → Int → Int → List Int → Option (Int)
 | 0, _, _, _, _, _, _, _, _, _, _, _, _, _, _ => none
 | k + 1, x1, x2, x13, x431000, x431001, x431002, x431003, x431004, x431005, x431006, x431007, x431008, x431009, x431010 => if (wrap64 ((x1.length : Int) - x13)) ≥ x431003 then (bellwetherref37_Regular.l3 k x1 x2 x13 false x13 x431000 x431001 x431002 x431003 x431004 x431005 x431006 x431007 x431008 x431009 x431010) else (some 0)
def bellwetherref37_Regular.l3 : Nat → List (List (S28)) → List Int → Int → Bool → Int → Int → Int → Int → Int → Int → Int → Int → Int → Int → Int → List Int → Option (Int)
 | 0, _, _, _, _, _, _, _, _, _, _, _, _, _, _, _, _ => none
 | k + 1, x1, x2, x13, x14, x15, x431000, x431001, x431002, x431003, x431004, x431005, x431006, x431007, x431008, x431009, x431010 => if x15 < (wrap64 (x13 + x431003)) then (if x14 = true then (bellwetherref37_Regular.l3 k x1 x2 x13 true (wrap64 (x15 + 1)) x431000 x431001 x431002 x431003 x431004 x431005 x431006 x431007 x431008 x431009 x431010) else (if 0 < (x2.length : Int) then ((bellwetherref36_At.f x1 x15 (rd x2 0)).bind fun bt445 => (bellwetherref37_Regular.l3 k x1 x2 x13 bt445.1 (wrap64 (x15 + 1)) x431000 x431001 x431002 x431003 x431004 x431005 x431006 x431007 x431008 x431009 x431010)) else (none))) else (if x14 = true then (bellwetherref37_Regular.l2 k x1 x2 (wrap64 (x13 + 1)) x431000 x431001 x431002 x431003 x431004 x431005 x431006 x431007 x431008 x431009 x431010) else (some 10))
end
theorem bellwetherref37_Regular.fld28_0 (v0 v1 v2 v3 v4 v5 v6 : Value) (w : World) : (Instr.field 28 (.agg #[v0, v1, v2, v3, v4, v5, v6]) 0).run Try.prog w = .ok (v0) w := by kernel_rfl
attribute [local go_sem] bellwetherref37_Regular.fld28_0
end Go.Proofs.Ytmdnmofcgmmfbaa.X
