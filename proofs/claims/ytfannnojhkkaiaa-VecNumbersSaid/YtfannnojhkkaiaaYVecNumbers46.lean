import Derived.Test.YtfannnojhkkaiaaYVecNumbers40
import Derived.Test.YtfannnojhkkaiaaYVecNumbers45
import Derived.Test.YtfannnojhkkaiaaYVecNumbers33
import Derived.Test.YtfannnojhkkaiaaYVecNumbers20
import Derived.Test.YtfannnojhkkaiaaYVecNumbers17
import Derived.Test.YtfannnojhkkaiaaYVecNumbers11
import Derived.Test.YtfannnojhkkaiaaYVecNumbers34
import Derived.Test.YtfannnojhkkaiaaYVecNumbers35
set_option linter.unusedVariables false
set_option linter.unusedSimpArgs false
set_option linter.unusedSectionVars false
namespace Go.Proofs.Ytfannnojhkkaiaa.VecLib
open Go.RowKit Go.Proofs.Ytfannnojhkkaiaa.V Go.Proofs.YtfannnojhkkaiaaW.PrintWords Go.Proofs.YtfannnojhkkaiaaW.PrintMore Go.Proofs.Ytfannnojhkkaiaa.ConfLib Go.Proofs.Ytfannnojhkkaiaa.TallyLib Go.Proofs.Ytfannnojhkkaiaa.KingLib
def txt (V : List Int) : ByteArray := strOfNums (V.map (fun d => 48 + d))
theorem txt_list (V : List Int) : (txt V).data.toList = V.map (fun d => UInt8.ofNat (48 + d).toNat) := by simp [txt, strOfNums]
theorem txt_size (V : List Int) : (txt V).size = V.length := by rw [Bytes.size_list, txt_list, List.length_map]
theorem txt_append (V W : List Int) : txt (V ++ W) = txt V ++ txt W := by unfold txt; rw [List.map_append, Bytes.strOf_append]
theorem txt_bt (V : List Int) {j : Nat} (hj : j < V.length) (h0 : 0 ≤ V.getD j 0) (h1 : V.getD j 0 ≤ 200) : bt (txt V) (j : Int) = 48 + V.getD j 0 := by
  have e : V.getD j 0 = V[j] := by simp [List.getD_eq_getElem?_getD, hj]
  rw [Bytes.bt_nat _ _ (by rw [txt_size]; exact hj)]
  simp only [txt_list, List.getElem_map]
  rw [e] at h0 h1 ⊢
  rw [UInt8.toNat_ofNat']
  omega
abbrev val (b : Int) : Int := vec_Values_1.digit b
abbrev strong (b : Int) : Bool := vec_Values_1.strong b
abbrev bit (b : Int) : Int := vec_Of_1.digit b
abbrev vote (s : ByteArray) (j : Int) : Int := vec_Step_1.vote s j
theorem of_at (s : ByteArray) (h : s.size ≤ 140737488351232) : vec_Of.f s = some (txt (vec_Of.digits s)) := by
  unfold vec_Of.f
  rw [if_pos h]
  rfl
theorem values_at (s : ByteArray) (h : s.size ≤ 140737488351232) : vec_Values.f s = some (txt (vec_Values.digits s)) := by
  unfold vec_Values.f
  rw [if_pos h]
  rfl
theorem of_len (s : ByteArray) : (vec_Of.digits s).length = s.size := by simp [vec_Of.digits]
theorem values_len (s : ByteArray) : (vec_Values.digits s).length = s.size := by simp [vec_Values.digits]
theorem of_get (s : ByteArray) {j : Nat} (hj : j < s.size) : (vec_Of.digits s).getD j 0 = bit (bt s (j : Int)) := KW.getD_range _ 0 hj
theorem values_get (s : ByteArray) {j : Nat} (hj : j < s.size) : (vec_Values.digits s).getD j 0 = val (bt s (j : Int)) := KW.getD_range _ 0 hj
section
variable (n f d p r dr o s m fr : Int) (t : List Int)
end
theorem byte_at {d : Int} (h0 : 0 ≤ d) (h1 : d ≤ 100) : bellwetherref01_Byte.f (wrap64 (48 + d)) = some (txt [d]) := by
  unfold bellwetherref01_Byte.f txt
  rw [ConfLib.wrap_small (by omega) (by omega)]
  simp only [List.map_cons, List.map_nil]
  rw [Int.emod_eq_of_lt (by omega) (by omega)]
theorem succ_w {i : Nat} (h : i ≤ 1000000) : wrap64 ((i : Int) + 1) = ((i + 1 : Nat) : Int) := by
  rw [ConfLib.wrap_small (by omega) (by omega)]
  rfl
section
variable (n f d p r dr o s m fr : Int) (t : List Int)
end
end Go.Proofs.Ytfannnojhkkaiaa.VecLib
