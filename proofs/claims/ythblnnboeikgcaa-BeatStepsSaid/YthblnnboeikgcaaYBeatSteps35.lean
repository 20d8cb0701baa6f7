import Derived.Test.YthblnnboeikgcaaYBeatSteps32
import Derived.Test.YthblnnboeikgcaaYBeatSteps33
import Derived.Test.YthblnnboeikgcaaYBeatSteps34
set_option linter.unusedVariables false
set_option linter.unusedSimpArgs false
set_option linter.unusedSectionVars false
namespace Go.Proofs.Ythblnnboeikgcaa.VecLib
open Go.RowKit Go.Proofs.Ythblnnboeikgcaa.B Go.Proofs.YthblnnboeikgcaaW.PrintWords Go.Proofs.YthblnnboeikgcaaW.PrintMore Go.Proofs.Ythblnnboeikgcaa.ConfLib Go.Proofs.Ythblnnboeikgcaa.TallyLib Go.Proofs.Ythblnnboeikgcaa.KingLib
def txt (V : List Int) : ByteArray := strOfNums (V.map (fun d => 48 + d))
theorem txt_list (V : List Int) : (txt V).data.toList = V.map (fun d => UInt8.ofNat (48 + d).toNat) := by simp [txt, strOfNums]
theorem txt_size (V : List Int) : (txt V).size = V.length := by rw [Bytes.size_list, txt_list, List.length_map]
theorem txt_append (V W : List Int) : txt (V ++ W) = txt V ++ txt W := by unfold txt; rw [List.map_append, Bytes.strOf_append]
theorem txt_bt (V : List Int) {j : Nat} (hj : j < V.length) (h0 : 0 ≤ V.getD j 0) (h1 : V.getD j 0 ≤ 200) : bt (txt V) (j : Int) = 48 + V.getD j 0 := by
  have e : V.getD j 0 = V[j] := by simp [List.getD_eq_getElem?_getD, hj]
  rw [Bytes.bt_nat _ _ (by rw [txt_size]; exact hj)]
  simp only [txt_list, List.getElem_map]
  rw [e] at h0 h1 ⊢
  rw [UInt8.toNat_ofNat']
  omega
abbrev val (b : Int) : Int := vec_Values_1.digit b
abbrev strong (b : Int) : Bool := vec_Values_1.strong b
abbrev vote (s : ByteArray) (j : Int) : Int := vec_Step_1.vote s j
theorem values_at (s : ByteArray) (h : s.size ≤ 140737488351232) : vec_Values.f s = some (txt (vec_Values.digits s)) := by
  unfold vec_Values.f
  rw [if_pos h]
  rfl
theorem values_len (s : ByteArray) : (vec_Values.digits s).length = s.size := by simp [vec_Values.digits]
section
variable (n f d p r dr o s m fr : Int) (t : List Int)
def newCode (x b v : Int) (l : List Int) : Int := code (KingLib.step n f d p r dr o s m fr t x (val b) (strong b) v l).1 (KingLib.step n f d p r dr o s m fr t x (val b) (strong b) v l).2
theorem newCode_range (x b v : Int) (l : List Int) : 0 ≤ newCode n f d p r dr o s m fr t x b v l ∧ newCode n f d p r dr o s m fr t x b v l ≤ 5 := code_range _ _
def stepD (x : Int) (codes boss : ByteArray) (VS : List ByteArray) : List Int := (List.range codes.size).map (fun (j : Nat) => newCode n f d p r dr o s m fr t x (bt codes (j : Int)) (vote boss (j : Int)) (VS.map (fun z => vote z (j : Int))))
theorem stepD_len (x : Int) (codes boss : ByteArray) (VS : List ByteArray) : (stepD n f d p r dr o s m fr t x codes boss VS).length = codes.size := by simp [stepD]
theorem go_at (x : Int) (codes boss : ByteArray) (VS : List ByteArray) (hl : VS.length ≤ 1000000) {k : Nat} (hk : 10 < k) : ∀ js : List Nat, vec_Step.go k (⟨n, f, d, p, r, dr, o, s, m, fr, t⟩ : S24) x codes boss VS js = some (js.map (fun (j : Nat) => newCode n f d p r dr o s m fr t x (bt codes (j : Int)) (vote boss (j : Int)) (VS.map (fun z => vote z (j : Int)))))
  | [] => rfl
  | j :: js => by
    have hb := bt_range codes (j : Int)
    have hc := newCode_range n f d p r dr o s m fr t x (bt codes (j : Int)) (vote boss (j : Int)) (VS.map (fun z => vote z (j : Int)))
    unfold vec_Step.go
    rw [vec_Values_1.read_at _ hb.1 hb.2]
    simp only [Option.bind_some]
    rw [step_at n f d p r dr o s m fr t _ _ _ _ _ (by rw [List.length_map]; exact hl) hk]
    simp only [Option.bind_some]
    rw [code_at]
    simp only [Option.bind_some]
    rw [if_pos ⟨hc.1, Int.le_trans hc.2 (by decide)⟩, go_at x codes boss VS hl hk js]
    rfl
theorem vstep_at (x : Int) (codes boss : ByteArray) (VS : List ByteArray) (hs : codes.size ≤ 1000000) (hl : VS.length ≤ 1000000) {k : Nat} (hk : 10 < k) : vec_Step.f k n f d p r dr o s m fr t x codes boss VS = some (txt (stepD n f d p r dr o s m fr t x codes boss VS)) := by
  unfold vec_Step.f
  rw [if_pos ⟨hs, hl⟩, go_at n f d p r dr o s m fr t x codes boss VS hl hk]
  rfl
end
theorem byte_at {d : Int} (h0 : 0 ≤ d) (h1 : d ≤ 100) : r01Byte.f (wrap64 (48 + d)) = some (txt [d]) := by
  unfold r01Byte.f txt
  rw [ConfLib.wrap_small (by omega) (by omega)]
  simp only [List.map_cons, List.map_nil]
  rw [Int.emod_eq_of_lt (by omega) (by omega)]
theorem digit_at (v : Int) (b : Bool) : r16digit.f v b = some (txt [code v b]) := by
  have h := code_range v b
  unfold r16digit.f
  rw [ref_code_at]
  simp only [Option.bind_some]
  rw [byte_at h.1 (by omega)]
  rfl
theorem ref_code_ev (b : Int) (h0 : 0 ≤ b) (h1 : b ≤ 255) : Ev (fun k => r16code.f k b) (val b, strong b) := by
  refine Ev.congr (fun k => r16code.f.eq_1 ..) ?_
  by_cases d1 : b < 48
  · refine Ev.pos d1 (Ev.step (fun k => r16code.j0.eq_2 ..) (Ev.pos rfl (Ev.some_ (ref_read_at _) (Ev.val ?_))))
    simp only [KingLib.read, val, strong, vec_Values_1.digit, vec_Values_1.strong]
    rw [if_pos (by omega), if_pos (.inl d1), if_pos (.inl d1)]
  · refine Ev.neg d1 (Ev.step (fun k => r16code.j0.eq_2 ..) ?_)
    by_cases d2 : b > 53
    · refine Ev.pos (decide_eq_true d2) (Ev.some_ (ref_read_at _) (Ev.val ?_))
      simp only [KingLib.read, val, strong, vec_Values_1.digit, vec_Values_1.strong]
      rw [if_pos (by omega), if_pos (.inr d2), if_pos (.inr d2)]
    · refine Ev.neg (by simpa using d2) (Ev.some_ (ref_read_at _) (Ev.val ?_))
      rw [Int.emod_eq_of_lt (by omega) (by omega)]
      simp only [KingLib.read, val, strong, vec_Values_1.digit, vec_Values_1.strong]
      rw [if_neg (by omega), if_neg (by omega), if_neg (by omega)]
      refine Prod.ext rfl ?_
      exact decide_eq_decide.2 ⟨fun h => by omega, fun h => by omega⟩
theorem ref_vote_at (s : ByteArray) (j : Nat) : r16Vote.f s (j : Int) = some (vote s (j : Int)) := by
  unfold r16Vote.f vote vec_Step_1.vote
  rw [if_neg (by omega)]
  by_cases d1 : (j : Int) ≥ (s.size : Int)
  · rw [if_pos d1, if_pos (.inl d1)]
  · rw [if_neg d1, if_pos (by omega), if_pos (by omega)]
    by_cases d2 : bt s j < 48
    · rw [if_pos d2, if_pos (.inr (.inl d2))]
    · by_cases d3 : bt s j > 50
      · rw [if_neg d2, if_pos d3, if_pos (.inr (.inr d3))]
      · rw [if_neg d2, if_neg d3, if_neg (by omega)]
        congr 1
        omega
theorem succ_w {i : Nat} (h : i ≤ 1000000) : wrap64 ((i : Int) + 1) = ((i + 1 : Nat) : Int) := by
  rw [ConfLib.wrap_small (by omega) (by omega)]
  rfl
theorem take_map_succ {α : Type} (g : Nat → α) {m j : Nat} (hj : j < m) : (((List.range m).map g).take j) ++ [g j] = ((List.range m).map g).take (j + 1) := by
  rw [List.take_succ_eq_append_getElem (by simpa using hj)]
  simp
theorem txt_grow {V : List Int} {j : Nat} {y : Int} (h : V.take j ++ [y] = V.take (j + 1)) : txt (V.take j) ++ txt [y] = txt (V.take (j + 1)) := by rw [← txt_append, h]
theorem room {V : List Int} {j : Nat} {y : Int} (h : V.length ≤ 1000000) : (txt (V.take j)).size + (txt [y]).size ≤ 9223372036854775807 := by
  rw [txt_size, txt_size, List.length_take]
  simp
  omega
theorem ref_values_ev (s : ByteArray) (hs : s.size ≤ 1000) : Ev (fun k => r16Values.f k s) (txt (vec_Values.digits s)) := by
  have hl := values_len s
  have key : ∀ (q i : Nat), i + q = s.size → Ev (fun k => r16Values.l0 k s (txt ((vec_Values.digits s).take i)) (i : Int)) (txt (vec_Values.digits s)) := by
    intro q
    induction q with
    | zero =>
      intro i hi
      refine Ev.step (fun k => r16Values.l0.eq_2 ..) (Ev.neg (by omega) (Ev.val ?_))
      rw [List.take_of_length_le (by omega)]
    | succ q ih =>
      intro i hi
      have hg : (vec_Values.digits s).take i ++ [val (bt s (i : Int))] = (vec_Values.digits s).take (i + 1) := take_map_succ (fun (j : Nat) => val (bt s (j : Int))) (by omega)
      have hv := vec_Values_1.range (bt s (i : Int))
      have hb := bt_range s (i : Int)
      have go := ih (i + 1) (by omega)
      rw [← succ_w (by omega), ← txt_grow hg] at go
      refine Ev.step (fun k => r16Values.l0.eq_2 ..) (Ev.pos (by omega) (Ev.pos (by omega) (Ev.bind (ref_code_ev _ hb.1 hb.2) (Ev.some_ (byte_at hv.1 (by show vec_Values_1.digit _ ≤ 100; omega)) (Ev.pos (room (by omega)) go)))))
  have := key s.size 0 (by omega)
  refine Ev.congr (fun k => r16Values.f.eq_1 ..) ?_
  exact this
section
variable (n f d p r dr o s m fr : Int) (t : List Int)
theorem ref_vstep_ev (x : Int) (codes boss : ByteArray) (VS : List ByteArray) (hs : codes.size ≤ 1000) (hl : VS.length ≤ 1000) : Ev (fun k => r16Step.f k n f d p r dr o s m fr t x codes boss VS) (txt (stepD n f d p r dr o s m fr t x codes boss VS)) := by
  have hd := stepD_len n f d p r dr o s m fr t x codes boss VS
  have key : ∀ (q i : Nat), i + q = codes.size → Ev (fun k => r16Step.l0 k x codes boss VS (txt ((stepD n f d p r dr o s m fr t x codes boss VS).take i)) (i : Int) n f d p r dr o s m fr t) (txt (stepD n f d p r dr o s m fr t x codes boss VS)) := by
    intro q
    induction q with
    | zero =>
      intro i hi
      refine Ev.step (fun k => r16Step.l0.eq_2 ..) (Ev.neg (by omega) (Ev.val ?_))
      rw [List.take_of_length_le (by omega)]
    | succ q ih =>
      intro i hi
      have hg : (stepD n f d p r dr o s m fr t x codes boss VS).take i ++ [newCode n f d p r dr o s m fr t x (bt codes (i : Int)) (vote boss (i : Int)) (VS.map (fun z => vote z (i : Int)))] = (stepD n f d p r dr o s m fr t x codes boss VS).take (i + 1) :=
        take_map_succ (fun (j : Nat) => newCode n f d p r dr o s m fr t x (bt codes (j : Int)) (vote boss (j : Int)) (VS.map (fun z => vote z (j : Int)))) (by omega)
      have hb := bt_range codes (i : Int)
      have go := ih (i + 1) (by omega)
      rw [← succ_w (by omega), ← txt_grow hg] at go
      refine Ev.step (fun k => r16Step.l0.eq_2 ..) (Ev.pos (by omega) ?_)
      have inner : ∀ (q2 j : Nat), j + q2 = VS.length → Ev (fun k => r16Step.l1 k x codes boss VS (txt ((stepD n f d p r dr o s m fr t x codes boss VS).take i)) (i : Int) ((VS.map (fun z => vote z (i : Int))).take j) (j : Int) n f d p r dr o s m fr t) (txt (stepD n f d p r dr o s m fr t x codes boss VS)) := by
        intro q2
        induction q2 with
        | zero =>
          intro j hj
          refine Ev.step (fun k => r16Step.l1.eq_2 ..) (Ev.neg (by omega) (Ev.pos (by omega) (Ev.pos (by omega) ?_)))
          rw [List.take_of_length_le (by rw [List.length_map]; omega)]
          refine Ev.bind (ref_code_ev _ hb.1 hb.2) (Ev.some_ (ref_vote_at boss i) ?_)
          refine Ev.bind (Ev.from 1010 (fun k hk => ref_step_at n f d p r dr o s m fr t _ _ _ _ _ (by rw [List.length_map]; omega) hk)) ?_
          exact Ev.some_ (digit_at _ _) (Ev.pos (room (by omega)) go)
        | succ q2 ih2 =>
          intro j hj
          have hs2 : (VS.map (fun z => vote z (i : Int))).take j ++ [vote (rdOf ByteArray.empty VS (j : Int)) (i : Int)] = (VS.map (fun z => vote z (i : Int))).take (j + 1) := by
            rw [List.take_succ_eq_append_getElem (by rw [List.length_map]; omega)]
            simp [rdOf, List.getD_eq_getElem?_getD, show j < VS.length by omega]
          have go2 := ih2 (j + 1) (by omega)
          rw [← succ_w (by omega), ← hs2] at go2
          have hl2 : ((VS.map (fun z => vote z (i : Int))).take j).length < 17592186044416 := Nat.lt_of_le_of_lt (m := 1000) (by rw [List.length_take, List.length_map]; omega) (by decide)
          refine Ev.step (fun k => r16Step.l1.eq_2 ..) (Ev.pos (by omega) (Ev.pos (by omega) (Ev.some_ (ref_vote_at _ i) (Ev.pos hl2 go2))))
      exact inner VS.length 0 (by omega)
  have := key codes.size 0 (by omega)
  refine Ev.congr (fun k => r16Step.f.eq_1 ..) ?_
  exact this
end
end Go.Proofs.Ythblnnboeikgcaa.VecLib
