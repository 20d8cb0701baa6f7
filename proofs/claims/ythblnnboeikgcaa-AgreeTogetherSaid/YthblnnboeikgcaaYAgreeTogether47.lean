import Derived.Test.YthblnnboeikgcaaYAgreeTogether46
set_option linter.unusedVariables false
set_option linter.unusedSimpArgs false
set_option linter.unusedSectionVars false
namespace Go.Proofs.Ythblnnboeikgcaa.VecLib
open Go.RowKit Go.Proofs.Ythblnnboeikgcaa.X Go.Proofs.YthblnnboeikgcaaW.PrintWords Go.Proofs.YthblnnboeikgcaaW.PrintMore Go.Proofs.Ythblnnboeikgcaa.ConfLib Go.Proofs.Ythblnnboeikgcaa.TallyLib Go.Proofs.Ythblnnboeikgcaa.KingLib
def txt (V : List Int) : ByteArray := strOfNums (V.map (fun d => 48 + d))
theorem txt_list (V : List Int) : (txt V).data.toList = V.map (fun d => UInt8.ofNat (48 + d).toNat) := by simp [txt, strOfNums]
theorem txt_size (V : List Int) : (txt V).size = V.length := by rw [Bytes.size_list, txt_list, List.length_map]
theorem txt_append (V W : List Int) : txt (V ++ W) = txt V ++ txt W := by unfold txt; rw [List.map_append, Bytes.strOf_append]
theorem txt_bt (V : List Int) {j : Nat} (hj : j < V.length) (h0 : 0 ≤ V.getD j 0) (h1 : V.getD j 0 ≤ 200) : bt (txt V) (j : Int) = 48 + V.getD j 0 := by
  have e : V.getD j 0 = V[j] := by simp [List.getD_eq_getElem?_getD, hj]
  rw [Bytes.bt_nat _ _ (by rw [txt_size]; exact hj)]
  simp only [txt_list, List.getElem_map]
  rw [e] at h0 h1 ⊢
  rw [UInt8.toNat_ofNat']
  omega
theorem ext_bt {a b : ByteArray} (hs : a.size = b.size) (h : ∀ j : Nat, j < a.size → bt a (j : Int) = bt b (j : Int)) : a = b := by
  refine Bytes.ext (List.ext_getElem (by rw [data_length, data_length]; exact hs) (fun j h1 h2 => ?_))
  rw [data_length] at h1 h2
  have e := h j h1
  rw [Bytes.bt_nat _ _ h1, Bytes.bt_nat _ _ h2] at e
  exact UInt8.toNat_inj.1 (by omega)
abbrev val (b : Int) : Int := vec_Values_1.digit b
abbrev strong (b : Int) : Bool := vec_Values_1.strong b
abbrev bit (b : Int) : Int := vec_Of_1.digit b
abbrev vote (s : ByteArray) (j : Int) : Int := vec_Step_1.vote s j
theorem of_at (s : ByteArray) (h : s.size ≤ 140737488351232) : vec_Of.f s = some (txt (vec_Of.digits s)) := by
  unfold vec_Of.f
  rw [if_pos h]
  rfl
theorem values_at (s : ByteArray) (h : s.size ≤ 140737488351232) : vec_Values.f s = some (txt (vec_Values.digits s)) := by
  unfold vec_Values.f
  rw [if_pos h]
  rfl
theorem of_len (s : ByteArray) : (vec_Of.digits s).length = s.size := by simp [vec_Of.digits]
theorem values_len (s : ByteArray) : (vec_Values.digits s).length = s.size := by simp [vec_Values.digits]
theorem of_get (s : ByteArray) {j : Nat} (hj : j < s.size) : (vec_Of.digits s).getD j 0 = bit (bt s (j : Int)) := KW.getD_range _ 0 hj
theorem values_get (s : ByteArray) {j : Nat} (hj : j < s.size) : (vec_Values.digits s).getD j 0 = val (bt s (j : Int)) := KW.getD_range _ 0 hj
section
variable (n f d p r dr o s m fr : Int) (t : List Int)
def newCode (x b v : Int) (l : List Int) : Int := code (KingLib.step n f d p r dr o s m fr t x (val b) (strong b) v l).1 (KingLib.step n f d p r dr o s m fr t x (val b) (strong b) v l).2
theorem newCode_range (x b v : Int) (l : List Int) : 0 ≤ newCode n f d p r dr o s m fr t x b v l ∧ newCode n f d p r dr o s m fr t x b v l ≤ 5 := code_range _ _
def stepD (x : Int) (codes boss : ByteArray) (VS : List ByteArray) : List Int := (List.range codes.size).map (fun (j : Nat) => newCode n f d p r dr o s m fr t x (bt codes (j : Int)) (vote boss (j : Int)) (VS.map (fun z => vote z (j : Int))))
theorem stepD_len (x : Int) (codes boss : ByteArray) (VS : List ByteArray) : (stepD n f d p r dr o s m fr t x codes boss VS).length = codes.size := by simp [stepD]
theorem stepD_get (x : Int) (codes boss : ByteArray) (VS : List ByteArray) {j : Nat} (hj : j < codes.size) : (stepD n f d p r dr o s m fr t x codes boss VS).getD j 0 = newCode n f d p r dr o s m fr t x (bt codes (j : Int)) (vote boss (j : Int)) (VS.map (fun z => vote z (j : Int))) := KW.getD_range _ 0 hj
theorem go_at (x : Int) (codes boss : ByteArray) (VS : List ByteArray) (hl : VS.length ≤ 1000000) {k : Nat} (hk : 10 < k) : ∀ js : List Nat, vec_Step.go k (⟨n, f, d, p, r, dr, o, s, m, fr, t⟩ : S24) x codes boss VS js = some (js.map (fun (j : Nat) => newCode n f d p r dr o s m fr t x (bt codes (j : Int)) (vote boss (j : Int)) (VS.map (fun z => vote z (j : Int)))))
  | [] => rfl
  | j :: js => by
    have hb := bt_range codes (j : Int)
    have hc := newCode_range n f d p r dr o s m fr t x (bt codes (j : Int)) (vote boss (j : Int)) (VS.map (fun z => vote z (j : Int)))
    unfold vec_Step.go
    rw [vec_Values_1.read_at _ hb.1 hb.2]
    simp only [Option.bind_some]
    rw [step_at n f d p r dr o s m fr t _ _ _ _ _ (by rw [List.length_map]; exact hl) hk]
    simp only [Option.bind_some]
    rw [code_at]
    simp only [Option.bind_some]
    rw [if_pos ⟨hc.1, Int.le_trans hc.2 (by decide)⟩, go_at x codes boss VS hl hk js]
    rfl
theorem vstep_at (x : Int) (codes boss : ByteArray) (VS : List ByteArray) (hs : codes.size ≤ 1000000) (hl : VS.length ≤ 1000000) {k : Nat} (hk : 10 < k) : vec_Step.f k n f d p r dr o s m fr t x codes boss VS = some (txt (stepD n f d p r dr o s m fr t x codes boss VS)) := by
  unfold vec_Step.f
  rw [if_pos ⟨hs, hl⟩, go_at n f d p r dr o s m fr t x codes boss VS hl hk]
  rfl
end
theorem succ_w {i : Nat} (h : i ≤ 1000000) : wrap64 ((i : Int) + 1) = ((i + 1 : Nat) : Int) := by
  rw [ConfLib.wrap_small (by omega) (by omega)]
  rfl
theorem take_map_succ {α : Type} (g : Nat → α) {m j : Nat} (hj : j < m) : (((List.range m).map g).take j) ++ [g j] = ((List.range m).map g).take (j + 1) := by
  rw [List.take_succ_eq_append_getElem (by simpa using hj)]
  simp
theorem txt_grow {V : List Int} {j : Nat} {y : Int} (h : V.take j ++ [y] = V.take (j + 1)) : txt (V.take j) ++ txt [y] = txt (V.take (j + 1)) := by rw [← txt_append, h]
section
variable (n f d p r dr o s m fr : Int) (t : List Int)
end
end Go.Proofs.Ythblnnboeikgcaa.VecLib
