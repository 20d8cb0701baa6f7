import Derived.Test.YtfannnojhkkaiaaYVecApart42
import Derived.Test.YtfannnojhkkaiaaYVecApart48
import Derived.Test.YtfannnojhkkaiaaYVecApart30
import Derived.Test.YtfannnojhkkaiaaYVecApart34
import Derived.Test.YtfannnojhkkaiaaYVecApart32
import Derived.Test.YtfannnojhkkaiaaYVecApart12
import Derived.Test.YtfannnojhkkaiaaYVecApart35
import Derived.Test.YtfannnojhkkaiaaYVecApart36
set_option linter.unusedVariables false
set_option linter.unusedSimpArgs false
set_option linter.unusedSectionVars false
namespace Go.Proofs.Ytfannnojhkkaiaa.VecLib
open Go.RowKit Go.Proofs.Ytfannnojhkkaiaa.V Go.Proofs.YtfannnojhkkaiaaW.PrintWords Go.Proofs.YtfannnojhkkaiaaW.PrintMore Go.Proofs.Ytfannnojhkkaiaa.ConfLib Go.Proofs.Ytfannnojhkkaiaa.TallyLib Go.Proofs.Ytfannnojhkkaiaa.KingLib
def txt (V : List Int) : ByteArray := strOfNums (V.map (fun d => 48 + d))
theorem txt_list (V : List Int) : (txt V).data.toList = V.map (fun d => UInt8.ofNat (48 + d).toNat) := by simp [txt, strOfNums]
theorem txt_size (V : List Int) : (txt V).size = V.length := by rw [Bytes.size_list, txt_list, List.length_map]
theorem txt_extract (V : List Int) (i j : Nat) : (txt V).extract i j = txt ((V.drop i).take (j - i)) := Bytes.ext (by rw [Bytes.extract_list, txt_list, txt_list, List.map_take, List.map_drop])
abbrev val (b : Int) : Int := vec_Values_1.digit b
abbrev strong (b : Int) : Bool := vec_Values_1.strong b
abbrev vote (s : ByteArray) (j : Int) : Int := vec_Step_1.vote s j
section
variable (n f d p r dr o s m fr : Int) (t : List Int)
def newCode (x b v : Int) (l : List Int) : Int := code (KingLib.step n f d p r dr o s m fr t x (val b) (strong b) v l).1 (KingLib.step n f d p r dr o s m fr t x (val b) (strong b) v l).2
theorem newCode_range (x b v : Int) (l : List Int) : 0 ≤ newCode n f d p r dr o s m fr t x b v l ∧ newCode n f d p r dr o s m fr t x b v l ≤ 5 := code_range _ _
def stepD (x : Int) (codes boss : ByteArray) (VS : List ByteArray) : List Int := (List.range codes.size).map (fun (j : Nat) => newCode n f d p r dr o s m fr t x (bt codes (j : Int)) (vote boss (j : Int)) (VS.map (fun z => vote z (j : Int))))
theorem stepD_len (x : Int) (codes boss : ByteArray) (VS : List ByteArray) : (stepD n f d p r dr o s m fr t x codes boss VS).length = codes.size := by simp [stepD]
theorem go_at (x : Int) (codes boss : ByteArray) (VS : List ByteArray) (hl : VS.length ≤ 1000000) {k : Nat} (hk : 10 < k) : ∀ js : List Nat, vec_Step.go k (⟨n, f, d, p, r, dr, o, s, m, fr, t⟩ : S24) x codes boss VS js = some (js.map (fun (j : Nat) => newCode n f d p r dr o s m fr t x (bt codes (j : Int)) (vote boss (j : Int)) (VS.map (fun z => vote z (j : Int)))))
  | [] => rfl
  | j :: js => by
    have hb := bt_range codes (j : Int)
    have hc := newCode_range n f d p r dr o s m fr t x (bt codes (j : Int)) (vote boss (j : Int)) (VS.map (fun z => vote z (j : Int)))
    unfold vec_Step.go
    rw [vec_Values_1.read_at _ hb.1 hb.2]
    simp only [Option.bind_some]
    rw [step_at n f d p r dr o s m fr t _ _ _ _ _ (by rw [List.length_map]; exact hl) hk]
    simp only [Option.bind_some]
    rw [code_at]
    simp only [Option.bind_some]
    rw [if_pos ⟨hc.1, Int.le_trans hc.2 (by decide)⟩, go_at x codes boss VS hl hk js]
    rfl
theorem vstep_at (x : Int) (codes boss : ByteArray) (VS : List ByteArray) (hs : codes.size ≤ 1000000) (hl : VS.length ≤ 1000000) {k : Nat} (hk : 10 < k) : vec_Step.f k n f d p r dr o s m fr t x codes boss VS = some (txt (stepD n f d p r dr o s m fr t x codes boss VS)) := by
  unfold vec_Step.f
  rw [if_pos ⟨hs, hl⟩, go_at n f d p r dr o s m fr t x codes boss VS hl hk]
  rfl
end
theorem succ_w {i : Nat} (h : i ≤ 1000000) : wrap64 ((i : Int) + 1) = ((i + 1 : Nat) : Int) := by
  rw [ConfLib.wrap_small (by omega) (by omega)]
  rfl
section
variable (n f d p r dr o s m fr : Int) (t : List Int)
end
end Go.Proofs.Ytfannnojhkkaiaa.VecLib
