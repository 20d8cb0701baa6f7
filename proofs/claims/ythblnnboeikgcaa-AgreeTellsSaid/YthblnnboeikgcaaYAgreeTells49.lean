import Derived.Test.YthblnnboeikgcaaYAgreeTells43
import Derived.Test.YthblnnboeikgcaaYAgreeTells48
import Derived.Test.YthblnnboeikgcaaYAgreeTells34
import Derived.Test.YthblnnboeikgcaaYAgreeTells20
import Derived.Test.YthblnnboeikgcaaYAgreeTells23
import Derived.Test.YthblnnboeikgcaaYAgreeTells11
import Derived.Test.YthblnnboeikgcaaYAgreeTells38
import Derived.Test.YthblnnboeikgcaaYAgreeTells46
set_option linter.unusedVariables false
set_option linter.unusedSimpArgs false
set_option linter.unusedSectionVars false
namespace Go.Proofs.Ythblnnboeikgcaa.VecLib
open Go.RowKit Go.Proofs.Ythblnnboeikgcaa.X Go.Proofs.YthblnnboeikgcaaW.PrintWords Go.Proofs.YthblnnboeikgcaaW.PrintMore Go.Proofs.Ythblnnboeikgcaa.ConfLib Go.Proofs.Ythblnnboeikgcaa.TallyLib Go.Proofs.Ythblnnboeikgcaa.KingLib
def txt (V : List Int) : ByteArray := strOfNums (V.map (fun d => 48 + d))
theorem txt_list (V : List Int) : (txt V).data.toList = V.map (fun d => UInt8.ofNat (48 + d).toNat) := by simp [txt, strOfNums]
theorem txt_size (V : List Int) : (txt V).size = V.length := by rw [Bytes.size_list, txt_list, List.length_map]
theorem txt_append (V W : List Int) : txt (V ++ W) = txt V ++ txt W := by unfold txt; rw [List.map_append, Bytes.strOf_append]
abbrev val (b : Int) : Int := vec_Values_1.digit b
abbrev strong (b : Int) : Bool := vec_Values_1.strong b
abbrev bit (b : Int) : Int := vec_Of_1.digit b
abbrev vote (s : ByteArray) (j : Int) : Int := vec_Step_1.vote s j
theorem of_at (s : ByteArray) (h : s.size ≤ 140737488351232) : vec_Of.f s = some (txt (vec_Of.digits s)) := by
  unfold vec_Of.f
  rw [if_pos h]
  rfl
theorem values_at (s : ByteArray) (h : s.size ≤ 140737488351232) : vec_Values.f s = some (txt (vec_Values.digits s)) := by
  unfold vec_Values.f
  rw [if_pos h]
  rfl
theorem of_len (s : ByteArray) : (vec_Of.digits s).length = s.size := by simp [vec_Of.digits]
theorem values_len (s : ByteArray) : (vec_Values.digits s).length = s.size := by simp [vec_Values.digits]
section
variable (n f d p r dr o s m fr : Int) (t : List Int)
end
theorem byte_at {d : Int} (h0 : 0 ≤ d) (h1 : d ≤ 100) : bellwetherref01_Byte.f (wrap64 (48 + d)) = some (txt [d]) := by
  unfold bellwetherref01_Byte.f txt
  rw [ConfLib.wrap_small (by omega) (by omega)]
  simp only [List.map_cons, List.map_nil]
  rw [Int.emod_eq_of_lt (by omega) (by omega)]
theorem digit_at (v : Int) (b : Bool) : bellwetherref16_digit.f v b = some (txt [code v b]) := by
  have h := code_range v b
  unfold bellwetherref16_digit.f
  rw [ref_code_at]
  simp only [Option.bind_some]
  rw [byte_at h.1 (by omega)]
  rfl
theorem ref_code_ev (b : Int) (h0 : 0 ≤ b) (h1 : b ≤ 255) : Ev (fun k => bellwetherref16_code.f k b) (val b, strong b) := by
  refine Ev.congr (fun k => bellwetherref16_code.f.eq_1 ..) ?_
  by_cases d1 : b < 48
  · refine Ev.pos d1 (Ev.step (fun k => bellwetherref16_code.j0.eq_2 ..) (Ev.pos rfl (Ev.some_ (ref_read_at _) (Ev.val ?_))))
    simp only [KingLib.read, val, strong, vec_Values_1.digit, vec_Values_1.strong]
    rw [if_pos (by omega), if_pos (.inl d1), if_pos (.inl d1)]
  · refine Ev.neg d1 (Ev.step (fun k => bellwetherref16_code.j0.eq_2 ..) ?_)
    by_cases d2 : b > 53
    · refine Ev.pos (decide_eq_true d2) (Ev.some_ (ref_read_at _) (Ev.val ?_))
      simp only [KingLib.read, val, strong, vec_Values_1.digit, vec_Values_1.strong]
      rw [if_pos (by omega), if_pos (.inr d2), if_pos (.inr d2)]
    · refine Ev.neg (by simpa using d2) (Ev.some_ (ref_read_at _) (Ev.val ?_))
      rw [Int.emod_eq_of_lt (by omega) (by omega)]
      simp only [KingLib.read, val, strong, vec_Values_1.digit, vec_Values_1.strong]
      rw [if_neg (by omega), if_neg (by omega), if_neg (by omega)]
      refine Prod.ext rfl ?_
      exact decide_eq_decide.2 ⟨fun h => by omega, fun h => by omega⟩
theorem succ_w {i : Nat} (h : i ≤ 1000000) : wrap64 ((i : Int) + 1) = ((i + 1 : Nat) : Int) := by
  rw [ConfLib.wrap_small (by omega) (by omega)]
  rfl
theorem take_map_succ {α : Type} (g : Nat → α) {m j : Nat} (hj : j < m) : (((List.range m).map g).take j) ++ [g j] = ((List.range m).map g).take (j + 1) := by
  rw [List.take_succ_eq_append_getElem (by simpa using hj)]
  simp
theorem txt_grow {V : List Int} {j : Nat} {y : Int} (h : V.take j ++ [y] = V.take (j + 1)) : txt (V.take j) ++ txt [y] = txt (V.take (j + 1)) := by rw [← txt_append, h]
theorem room {V : List Int} {j : Nat} {y : Int} (h : V.length ≤ 1000000) : (txt (V.take j)).size + (txt [y]).size ≤ 9223372036854775807 := by
  rw [txt_size, txt_size, List.length_take]
  simp
  omega
theorem ref_of_ev (s : ByteArray) (hs : s.size ≤ 1000) : Ev (fun k => bellwetherref16_Of.f k s) (txt (vec_Of.digits s)) := by
  have hl := of_len s
  have key : ∀ (q i : Nat), i + q = s.size → Ev (fun k => bellwetherref16_Of.l0 k s (txt ((vec_Of.digits s).take i)) (i : Int)) (txt (vec_Of.digits s)) := by
    intro q
    induction q with
    | zero =>
      intro i hi
      refine Ev.step (fun k => bellwetherref16_Of.l0.eq_2 ..) (Ev.neg (by omega) (Ev.val ?_))
      rw [List.take_of_length_le (by omega)]
    | succ q ih =>
      intro i hi
      have hg : (vec_Of.digits s).take i ++ [bit (bt s (i : Int))] = (vec_Of.digits s).take (i + 1) := take_map_succ (fun (j : Nat) => bit (bt s (j : Int))) (by omega)
      have hc : bellwetherref16_bit.f (bt s (i : Int)) = some (bit (bt s (i : Int))) := by
        unfold bellwetherref16_bit.f bit vec_Of_1.digit
        split <;> rfl
      have hst : bellwetherref14_Start.f (bit (bt s (i : Int))) = some (bit (bt s (i : Int)), false) := vec_Of_1.start_at _
      have hcd : code (bit (bt s (i : Int))) false = bit (bt s (i : Int)) := by
        have := vec_Of_1.range (bt s (i : Int))
        unfold code
        rw [if_neg (by decide)]
        unfold value
        rw [if_neg (by show ¬ (vec_Of_1.digit _ < 0 ∨ 2 < vec_Of_1.digit _); omega)]
      have go := ih (i + 1) (by omega)
      rw [← succ_w (by omega), ← txt_grow hg] at go
      refine Ev.step (fun k => bellwetherref16_Of.l0.eq_2 ..) (Ev.pos (by omega) (Ev.pos (by omega) (Ev.some_ hc (Ev.some_ hst (Ev.some_ (digit_at _ _) ?_)))))
      rw [hcd]
      exact Ev.pos (room (by omega)) go
  have := key s.size 0 (by omega)
  refine Ev.congr (fun k => bellwetherref16_Of.f.eq_1 ..) ?_
  exact this
theorem ref_values_ev (s : ByteArray) (hs : s.size ≤ 1000) : Ev (fun k => bellwetherref16_Values.f k s) (txt (vec_Values.digits s)) := by
  have hl := values_len s
  have key : ∀ (q i : Nat), i + q = s.size → Ev (fun k => bellwetherref16_Values.l0 k s (txt ((vec_Values.digits s).take i)) (i : Int)) (txt (vec_Values.digits s)) := by
    intro q
    induction q with
    | zero =>
      intro i hi
      refine Ev.step (fun k => bellwetherref16_Values.l0.eq_2 ..) (Ev.neg (by omega) (Ev.val ?_))
      rw [List.take_of_length_le (by omega)]
    | succ q ih =>
      intro i hi
      have hg : (vec_Values.digits s).take i ++ [val (bt s (i : Int))] = (vec_Values.digits s).take (i + 1) := take_map_succ (fun (j : Nat) => val (bt s (j : Int))) (by omega)
      have hv := vec_Values_1.range (bt s (i : Int))
      have hb := bt_range s (i : Int)
      have go := ih (i + 1) (by omega)
      rw [← succ_w (by omega), ← txt_grow hg] at go
      refine Ev.step (fun k => bellwetherref16_Values.l0.eq_2 ..) (Ev.pos (by omega) (Ev.pos (by omega) (Ev.bind (ref_code_ev _ hb.1 hb.2) (Ev.some_ (byte_at hv.1 (by show vec_Values_1.digit _ ≤ 100; omega)) (Ev.pos (room (by omega)) go)))))
  have := key s.size 0 (by omega)
  refine Ev.congr (fun k => bellwetherref16_Values.f.eq_1 ..) ?_
  exact this
section
variable (n f d p r dr o s m fr : Int) (t : List Int)
end
end Go.Proofs.Ythblnnboeikgcaa.VecLib
