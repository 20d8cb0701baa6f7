import Derived.Test.YthblnnboeikgcaaYBeatSettles30
set_option maxHeartbeats 1000000
section
namespace Go.Proofs.Ythblnnboeikgcaa.B
open Go.RowKit Go.Proofs.YthblnnboeikgcaaW.PrintWords Go.Proofs.YthblnnboeikgcaaW.PrintLast Go.Proofs.YthblnnboeikgcaaW.PrintMore
attribute [local go_sem] max2_int min2_int max_two min_two max_three min_three max_four min_four   -- for this text's walks alone
set_option linter.unusedVariables false
set_option linter.unusedSimpArgs false
def vec_Values_1.digit (b : Int) : Int := if b < 48 ∨ 53 < b then 2 else (b - 48) % 3
def vec_Values_1.strong (b : Int) : Bool := if b < 48 ∨ 53 < b then false else decide (51 ≤ b)
theorem vec_Values_1.range (b : Int) : 0 ≤ vec_Values_1.digit b ∧ vec_Values_1.digit b ≤ 2 := by unfold vec_Values_1.digit; split <;> omega
theorem vec_Values_1.read_at (b : Int) (h0 : 0 ≤ b) (h1 : b ≤ 255) : vec_read.f b = some (vec_Values_1.digit b, vec_Values_1.strong b) := by
  have hw : wrap64 (wrap64 b - 48) = b - 48 := by unfold wrap64; omega
  unfold vec_read.f king_Read.f vec_Values_1.digit vec_Values_1.strong
  rw [hw]
  clear hw
  by_cases d1 : b < 48
  · rw [if_pos (by omega), if_pos (.inl d1), if_pos (.inl d1)]
    rfl
  · by_cases d2 : 53 < b
    · rw [if_neg (by omega), if_pos (by omega), if_pos (.inr d2), if_pos (.inr d2)]
      rfl
    · rw [if_neg (by omega), if_neg (by omega), if_neg (by omega), if_neg (by omega), Int.tmod_eq_emod_of_nonneg (by omega)]
      simp only [Option.bind_some]
      congr 2
      exact decide_eq_decide.2 ⟨fun h => by omega, fun h => by omega⟩
theorem vec_Values_1.fld (v0 v1 : Value) (w : World) : (Instr.field 59 (.agg #[v0, v1]) 0).run Try.prog w = .ok v0 w := by kernel_rfl
theorem vec_Values_1.calls (j b : Int) (w : World) (h0 : 0 ≤ b) (h1 : b ≤ 255) : Calls Try.prog 107 #[.int .i64 j, .int .u8 b] w fun e w' => e = .returned (.int .i64 (vec_Values_1.digit b)) ∧ Below w.heap.size w w' := by
  have H1 := Sd.mk (vec_Values_1.read_at b h0 h1)
  generalize vec_Values_1.digit b = y at H1 ⊢
  generalize vec_Values_1.strong b = z at H1
  have hfld := vec_Values_1.fld (.int .i64 y) (.bool z)
  go_enter Try.func107, Try.ntmps107
  go_wp2_with (go_at_call 108; (with_reducible refine (vec_read.calls b y z _ H1.out).mono ?_); rintro e1 w1 ⟨rfl, hb⟩; have B1 := Sd.mk hb; clear hb)
  go_ret
  exact ⟨rfl, B1.out⟩
end Go.Proofs.Ythblnnboeikgcaa.B
end
section
namespace Go.Proofs.Ythblnnboeikgcaa.B
open Go.RowKit Go.Proofs.YthblnnboeikgcaaW.PrintWords Go.Proofs.YthblnnboeikgcaaW.PrintLast Go.Proofs.YthblnnboeikgcaaW.PrintMore
attribute [local go_sem] max2_int min2_int max_two min_two max_three min_three max_four min_four   -- for this text's walks alone
set_option linter.unusedVariables false
set_option linter.unusedSimpArgs false
def vec_Values.digits (s : ByteArray) : List Int := (List.range s.size).map (fun (j : Nat) => vec_Values_1.digit (bt s (j : Int)))
def vec_Values.f (a0 : ByteArray) : Option (ByteArray) := if a0.size ≤ 140737488351232 then some (strOfNums ((vec_Values.digits a0).map (fun d => 48 + d))) else none
theorem vec_Values.calls (a0 : ByteArray) (r : ByteArray) (w : World) (h : vec_Values.f a0 = some r) :
    Calls Try.prog 56 #[.string a0] w fun e w' => e = .returned (.string r) ∧ Below w.heap.size w w' := by
  unfold vec_Values.f at h
  by_cases d1 : a0.size ≤ 140737488351232
  · rw [if_pos d1] at h
    obtain rfl := Option.some.inj h
    have hl : (vec_Values.digits a0).length = a0.size := by simp [vec_Values.digits]
    have hg : ∀ j, j < a0.size → (vec_Values.digits a0).getD j 0 = vec_Values_1.digit (bt a0 (j : Int)) := fun j hj => KW.getD_range _ 0 hj
    have HE := Sd.mk (vec_each.calls_Values a0 (vec_Values.digits a0) (fun W => Below w.heap.size w W) w hl d1 (fun j hj => by rw [hg j hj]; have := vec_Values_1.range (bt a0 (j : Int)); omega)
      (fun W W1 h hs hb => h.trans hb) (fun j W hj hJ hS => (vec_Values_1.calls (j : Int) (bt a0 (j : Int)) W (bt_range _ _).1 (bt_range _ _).2).mono fun e W' h => ⟨by rw [h.1, hg j hj], below_step hJ h.2, h.2.size, fun k _ hk => h.2.block k hk⟩) (Below.refl _ _))
    clear h hl hg
    generalize strOfNums ((vec_Values.digits a0).map (fun d => 48 + d)) = S at HE ⊢
    go_enter Try.func56, Try.ntmps56
    go_wp2_with (go_at_call 106; (with_reducible refine HE.out.mono ?_); rintro e1 w1 ⟨rfl, hb⟩; have B1 := Sd.mk hb; clear hb)
    go_ret
    exact ⟨rfl, B1.out⟩
  · rw [if_neg d1] at h
    cases h
end Go.Proofs.Ythblnnboeikgcaa.B
end
section
set_option linter.unusedVariables false
set_option linter.unusedSimpArgs false
set_option linter.unusedSectionVars false
namespace Go.Proofs.Ythblnnboeikgcaa.VecLib
open Go.RowKit Go.Proofs.Ythblnnboeikgcaa.B Go.Proofs.YthblnnboeikgcaaW.PrintWords Go.Proofs.YthblnnboeikgcaaW.PrintMore Go.Proofs.Ythblnnboeikgcaa.ConfLib Go.Proofs.Ythblnnboeikgcaa.TallyLib Go.Proofs.Ythblnnboeikgcaa.KingLib
def txt (V : List Int) : ByteArray := strOfNums (V.map (fun d => 48 + d))
theorem txt_list (V : List Int) : (txt V).data.toList = V.map (fun d => UInt8.ofNat (48 + d).toNat) := by simp [txt, strOfNums]
theorem txt_size (V : List Int) : (txt V).size = V.length := by rw [Bytes.size_list, txt_list, List.length_map]
theorem txt_append (V W : List Int) : txt (V ++ W) = txt V ++ txt W := by unfold txt; rw [List.map_append, Bytes.strOf_append]
theorem txt_extract (V : List Int) (i j : Nat) : (txt V).extract i j = txt ((V.drop i).take (j - i)) := Bytes.ext (by rw [Bytes.extract_list, txt_list, txt_list, List.map_take, List.map_drop])
theorem txt_bt (V : List Int) {j : Nat} (hj : j < V.length) (h0 : 0 ≤ V.getD j 0) (h1 : V.getD j 0 ≤ 200) : bt (txt V) (j : Int) = 48 + V.getD j 0 := by
  have e : V.getD j 0 = V[j] := by simp [List.getD_eq_getElem?_getD, hj]
  rw [Bytes.bt_nat _ _ (by rw [txt_size]; exact hj)]
  simp only [txt_list, List.getElem_map]
  rw [e] at h0 h1 ⊢
  rw [UInt8.toNat_ofNat']
  omega
abbrev val (b : Int) : Int := vec_Values_1.digit b
abbrev strong (b : Int) : Bool := vec_Values_1.strong b
abbrev vote (s : ByteArray) (j : Int) : Int := vec_Step_1.vote s j
theorem values_at (s : ByteArray) (h : s.size ≤ 140737488351232) : vec_Values.f s = some (txt (vec_Values.digits s)) := by
  unfold vec_Values.f
  rw [if_pos h]
  rfl
theorem values_len (s : ByteArray) : (vec_Values.digits s).length = s.size := by simp [vec_Values.digits]
theorem values_get (s : ByteArray) {j : Nat} (hj : j < s.size) : (vec_Values.digits s).getD j 0 = val (bt s (j : Int)) := KW.getD_range _ 0 hj
section
variable (n f d p r dr o s m fr : Int) (t : List Int)
def newCode (x b v : Int) (l : List Int) : Int := code (KingLib.step n f d p r dr o s m fr t x (val b) (strong b) v l).1 (KingLib.step n f d p r dr o s m fr t x (val b) (strong b) v l).2
theorem newCode_range (x b v : Int) (l : List Int) : 0 ≤ newCode n f d p r dr o s m fr t x b v l ∧ newCode n f d p r dr o s m fr t x b v l ≤ 5 := code_range _ _
def stepD (x : Int) (codes boss : ByteArray) (VS : List ByteArray) : List Int := (List.range codes.size).map (fun (j : Nat) => newCode n f d p r dr o s m fr t x (bt codes (j : Int)) (vote boss (j : Int)) (VS.map (fun z => vote z (j : Int))))
theorem stepD_len (x : Int) (codes boss : ByteArray) (VS : List ByteArray) : (stepD n f d p r dr o s m fr t x codes boss VS).length = codes.size := by simp [stepD]
theorem stepD_get (x : Int) (codes boss : ByteArray) (VS : List ByteArray) {j : Nat} (hj : j < codes.size) : (stepD n f d p r dr o s m fr t x codes boss VS).getD j 0 = newCode n f d p r dr o s m fr t x (bt codes (j : Int)) (vote boss (j : Int)) (VS.map (fun z => vote z (j : Int))) := KW.getD_range _ 0 hj
theorem go_at (x : Int) (codes boss : ByteArray) (VS : List ByteArray) (hl : VS.length ≤ 1000000) {k : Nat} (hk : 10 < k) : ∀ js : List Nat, vec_Step.go k (⟨n, f, d, p, r, dr, o, s, m, fr, t⟩ : S24) x codes boss VS js = some (js.map (fun (j : Nat) => newCode n f d p r dr o s m fr t x (bt codes (j : Int)) (vote boss (j : Int)) (VS.map (fun z => vote z (j : Int)))))
  | [] => rfl
  | j :: js => by
    have hb := bt_range codes (j : Int)
    have hc := newCode_range n f d p r dr o s m fr t x (bt codes (j : Int)) (vote boss (j : Int)) (VS.map (fun z => vote z (j : Int)))
    unfold vec_Step.go
    rw [vec_Values_1.read_at _ hb.1 hb.2]
    simp only [Option.bind_some]
    rw [step_at n f d p r dr o s m fr t _ _ _ _ _ (by rw [List.length_map]; exact hl) hk]
    simp only [Option.bind_some]
    rw [code_at]
    simp only [Option.bind_some]
    rw [if_pos ⟨hc.1, Int.le_trans hc.2 (by decide)⟩, go_at x codes boss VS hl hk js]
    rfl
theorem vstep_at (x : Int) (codes boss : ByteArray) (VS : List ByteArray) (hs : codes.size ≤ 1000000) (hl : VS.length ≤ 1000000) {k : Nat} (hk : 10 < k) : vec_Step.f k n f d p r dr o s m fr t x codes boss VS = some (txt (stepD n f d p r dr o s m fr t x codes boss VS)) := by
  unfold vec_Step.f
  rw [if_pos ⟨hs, hl⟩, go_at n f d p r dr o s m fr t x codes boss VS hl hk]
  rfl
end
theorem succ_w {i : Nat} (h : i ≤ 1000000) : wrap64 ((i : Int) + 1) = ((i + 1 : Nat) : Int) := by
  rw [ConfLib.wrap_small (by omega) (by omega)]
  rfl
section
variable (n f d p r dr o s m fr : Int) (t : List Int)
end
end Go.Proofs.Ythblnnboeikgcaa.VecLib
end
