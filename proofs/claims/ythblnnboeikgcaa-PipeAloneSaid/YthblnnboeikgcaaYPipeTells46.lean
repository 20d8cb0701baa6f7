import Derived.Test.YthblnnboeikgcaaYPipeTells45
section
set_option linter.unusedVariables false
set_option linter.unusedSimpArgs false
set_option linter.unusedSectionVars false
namespace Go.Proofs.Ythblnnboeikgcaa.PipeLib
open Go.RowKit Go.Proofs.Ythblnnboeikgcaa.P Go.Proofs.YthblnnboeikgcaaW.PrintWords Go.Proofs.YthblnnboeikgcaaW.PrintMore Go.Proofs.Ythblnnboeikgcaa.ConfLib Go.Proofs.Ythblnnboeikgcaa.TallyLib Go.Proofs.Ythblnnboeikgcaa.KingLib Go.Proofs.Ythblnnboeikgcaa.VecLib
theorem one_txt : (⟨#[48]⟩ : ByteArray) = txt [0] := rfl
theorem rep_ev (N : Nat) (hN : N ≤ 1000) : Ev (fun k => r10Rep.f k (⟨#[48]⟩ : ByteArray) (N : Int)) (txt (List.replicate N 0)) := by
  have key : ∀ (q i : Nat), i + q = N → Ev (fun k => r10Rep.l0 k (⟨#[48]⟩ : ByteArray) (N : Int) (txt (List.replicate i 0)) (i : Int)) (txt (List.replicate N 0)) := by
    intro q
    induction q with
    | zero =>
      intro i hi
      obtain rfl : i = N := by omega
      exact Ev.step (fun k => r10Rep.l0.eq_2 ..) (Ev.neg (by omega) (Ev.val rfl))
    | succ q ih =>
      intro i hi
      have go := ih (i + 1) (by omega)
      rw [List.replicate_succ', txt_append, ← one_txt, ← succ_w (by omega)] at go
      refine Ev.step (fun k => r10Rep.l0.eq_2 ..) (Ev.pos (by omega) (Ev.pos ?_ go))
      rw [txt_size, List.length_replicate]
      show i + 1 ≤ _
      omega
  exact Ev.congr (fun k => r10Rep.f.eq_1 ..) (key N 0 (by omega))
section
variable (n f d p r dr o s m fr : Int) (t : List Int)
theorem ref_blank_ev : Ev (fun k => r17Blank.f k n f d p r dr o s m fr t) (txt (List.replicate (ConfLib.length n f d p r dr o s m fr t).toNat 0)) := by
  have hl := length_facts n f d p r dr o s m fr t
  refine Ev.congr (fun k => r17Blank.f.eq_1 ..) ?_
  refine Ev.bind (Ev.from 700 (fun k hk => ref_length_at n f d p r dr o s m fr t hk)) ?_
  have := rep_ev (ConfLib.length n f d p r dr o s m fr t).toNat (by omega)
  rw [Int.toNat_of_nonneg hl.1] at this
  exact Ev.bind this (Ev.val rfl)
theorem ref_well_ev (a : ByteArray) : Ev (fun k => r17well.f k n f d p r dr o s m fr t a) (well n f d p r dr o s m fr t a) := by
  refine Ev.congr (fun k => r17well.f.eq_1 ..) ?_
  refine Ev.bind (Ev.from 700 (fun k hk => ref_length_at n f d p r dr o s m fr t hk)) ?_
  unfold well
  by_cases h : (a.size : Int) = ConfLib.length n f d p r dr o s m fr t
  · rw [if_pos h]
    exact Ev.pos h (Ev.val rfl)
  · rw [if_neg h]
    exact Ev.neg h (Ev.bind (ref_blank_ev n f d p r dr o s m fr t) (Ev.val rfl))
def tellD (a : ByteArray) : List Int := (List.range (ConfLib.rounds n f d p r dr o s m fr t).toNat).map (fun (j : Nat) => val (bt (well n f d p r dr o s m fr t a) ((j : Int) * d)))
def tellV (a : ByteArray) : ByteArray := txt (tellD n f d p r dr o s m fr t a)
theorem jd_facts (a : ByteArray) {j : Nat} (hj : j < (ConfLib.rounds n f d p r dr o s m fr t).toNat) : plain n f d p r dr o s m fr t = 0 ∧ 1 ≤ d ∧ d ≤ 4 ∧ 0 ≤ (j : Int) * d ∧ (j : Int) * d ≤ 60 ∧ (j : Int) * d + d ≤ ((well n f d p r dr o s m fr t a).size : Int) := by
  have hw := well_size n f d p r dr o s m fr t a
  by_cases hp : plain n f d p r dr o s m fr t = 0
  · have hf := plain_facts hp
    have hr : ConfLib.rounds n f d p r dr o s m fr t = 3 * (f + 1) := by unfold ConfLib.rounds; rw [if_pos hp]
    have hl : ConfLib.length n f d p r dr o s m fr t = 3 * (f + 1) * d := by unfold ConfLib.length; rw [if_pos hp]
    have hle := length_facts n f d p r dr o s m fr t
    rw [hw, hl]
    rw [hl] at hle
    have h1 : ((j : Int) + 1) * d ≤ 3 * (f + 1) * d := Int.mul_le_mul_of_nonneg_right (by omega) (by omega)
    have h2 : ((j : Int) + 1) * d = (j : Int) * d + d := by rw [Int.add_mul, Int.one_mul]
    have h3 : 0 ≤ (j : Int) * d := Int.mul_nonneg (by omega) (by omega)
    exact ⟨hp, by omega, by omega, h3, by omega, by omega⟩
  · have hr : ConfLib.rounds n f d p r dr o s m fr t = 0 := by unfold ConfLib.rounds; rw [if_neg hp]
    rw [hr] at hj
    exact absurd hj (by decide +revert)
theorem val_get (S : ByteArray) (y : Int) (h0 : 0 ≤ y) (h1 : y < (S.size : Int)) : bt (txt (vec_Values.digits S)) y = 48 + val (bt S y) := by
  obtain ⟨i, rfl⟩ := Int.eq_ofNat_of_zero_le h0
  have hi : i < S.size := by omega
  have hg := values_get S hi
  have hv := vec_Values_1.range (bt S (i : Int))
  have := txt_bt (vec_Values.digits S) (j := i) (by rw [values_len]; exact hi) (by rw [hg]; exact hv.1) (by rw [hg]; show vec_Values_1.digit _ ≤ 200; omega)
  rw [hg] at this
  exact this
theorem tell_at (a : ByteArray) {k : Nat} (hk : 10 < k) : pipe_Tell.f k n f d p r dr o s m fr t a = some (tellV n f d p r dr o s m fr t a) := by
  have hw := well_size n f d p r dr o s m fr t a
  have hl := length_facts n f d p r dr o s m fr t
  have hr := PlanLib.rounds_facts (n := n) (f := f) (d := d) (p := p) (r := r) (dr := dr) (o := o) (s := s) (m := m) (fr := fr) (t := t)
  unfold pipe_Tell.f
  rw [sound_at n f d p r dr o s m fr t a hk]
  simp only [Option.bind_some]
  rw [values_at _ (by omega), rounds_at n f d p r dr o s m fr t hk]
  simp only [Option.bind_some]
  rw [if_pos]
  · congr 1
    unfold tellV tellD pipe_Tell.told txt
    rw [List.map_map]
    congr 1
    refine List.map_congr_left (fun j hj => ?_)
    have h := jd_facts n f d p r dr o s m fr t a (List.mem_range.1 hj)
    exact val_get _ _ h.2.2.2.1 (by omega)
  · refine ⟨hr.1, hr.2, ?_, by omega, fun j hj => ?_⟩
    · by_cases hp : plain n f d p r dr o s m fr t = 0
      · have hf := plain_facts hp
        exact .inr ⟨by omega, by omega⟩
      · exact .inl (by unfold ConfLib.rounds; rw [if_neg hp])
    · have h := jd_facts n f d p r dr o s m fr t a hj
      rw [txt_size, values_len]
      omega
theorem ref_tell_ev (a : ByteArray) : Ev (fun k => r17Tell.f k n f d p r dr o s m fr t a) (tellV n f d p r dr o s m fr t a) := by
  have hw := well_size n f d p r dr o s m fr t a
  have hl := length_facts n f d p r dr o s m fr t
  have hr := PlanLib.rounds_facts (n := n) (f := f) (d := d) (p := p) (r := r) (dr := dr) (o := o) (s := s) (m := m) (fr := fr) (t := t)
  have hrd := Ev.from 700 (fun k hk => ref_rounds_at n f d p r dr o s m fr t (k := k) hk)
  have hT : (tellD n f d p r dr o s m fr t a).length = (ConfLib.rounds n f d p r dr o s m fr t).toNat := by simp [tellD]
  have key : ∀ (q i : Nat), i + q = (ConfLib.rounds n f d p r dr o s m fr t).toNat → Ev (fun k => r17Tell.l0 k (txt (vec_Values.digits (well n f d p r dr o s m fr t a))) (txt ((tellD n f d p r dr o s m fr t a).take i)) (i : Int) n f d p r dr o s m fr t) (tellV n f d p r dr o s m fr t a) := by
    intro q
    induction q with
    | zero =>
      intro i hi
      refine Ev.step (fun k => r17Tell.l0.eq_2 ..) (Ev.bind hrd (Ev.neg (by omega) (Ev.val ?_)))
      rw [List.take_of_length_le (by omega)]
      rfl
    | succ q ih =>
      intro i hi
      have h := jd_facts n f d p r dr o s m fr t a (j := i) (by omega)
      have go := ih (i + 1) (by omega)
      have hg : (tellD n f d p r dr o s m fr t a).take i ++ [val (bt (well n f d p r dr o s m fr t a) ((i : Int) * d))] = (tellD n f d p r dr o s m fr t a).take (i + 1) := take_map_succ (fun (j : Nat) => val (bt (well n f d p r dr o s m fr t a) ((j : Int) * d))) (by omega)
      obtain ⟨y, hy⟩ := Int.eq_ofNat_of_zero_le h.2.2.2.1
      have hx : (txt (vec_Values.digits (well n f d p r dr o s m fr t a))).extract y (y + 1) = txt [val (bt (well n f d p r dr o s m fr t a) ((i : Int) * d))] := by
        rw [txt_extract, show y + 1 - y = 1 by omega, hy]
        congr 1
        have hlt : y < (vec_Values.digits (well n f d p r dr o s m fr t a)).length := by rw [values_len]; omega
        have hv := values_get (well n f d p r dr o s m fr t a) (j := y) (by omega)
        rw [List.drop_eq_getElem_cons hlt]
        simp only [List.take_succ_cons, List.take_zero]
        rw [List.getD_eq_getElem?_getD, List.getElem?_eq_getElem hlt] at hv
        exact congrArg (fun z => [z]) hv
      rw [← succ_w (by omega), ← hg, txt_append, ← hx] at go
      refine Ev.step (fun k => r17Tell.l0.eq_2 ..) (Ev.bind hrd (Ev.pos (by omega) ?_))
      rw [ConfLib.wrap_small (n := (i : Int) * d) (by omega) (by omega), hy, ConfLib.wrap_small (n := (y : Int) + 1) (by omega) (by omega)]
      refine Ev.pos (by omega) (Ev.pos (by omega) (Ev.pos (by rw [txt_size, values_len]; omega) (Ev.pos ?_ ?_)))
      · rw [txt_size, List.length_take]
        omega
      · exact go
  refine Ev.congr (fun k => r17Tell.f.eq_1 ..) ?_
  refine Ev.bind (ref_well_ev n f d p r dr o s m fr t a) (Ev.bind (ref_values_ev _ (by omega)) ?_)
  exact key (ConfLib.rounds n f d p r dr o s m fr t).toNat 0 (by omega)
theorem put_list (S : ByteArray) (i : Nat) (x : Int) : (pipe_sound.put S i x).data.toList = S.data.toList.set i (UInt8.ofNat x.toNat) := by
  have hw : (strOfNums (pipe_sound.nums S)).data.toList = S.data.toList := by rw [pipe_sound.whole]
  have h : ∀ xs : List Int, (strOfNums xs).data.toList = xs.map (fun z => UInt8.ofNat z.toNat) := fun xs => by simp [strOfNums]
  rw [h] at hw
  show (strOfNums ((pipe_sound.nums S).set i x)).data.toList = _
  rw [h, List.map_set, hw]
def beginV (a : ByteArray) (b : Int) : ByteArray := if plain n f d p r dr o s m fr t = 0 then pipe_sound.put (well n f d p r dr o s m fr t a) 0 (48 + code (KingLib.start b).1 (KingLib.start b).2) else E0
theorem len_pos (hp : plain n f d p r dr o s m fr t = 0) : 3 ≤ ConfLib.length n f d p r dr o s m fr t := by
  have hf := plain_facts hp
  have := mul_d (f := f) (d := d) (by omega) (by omega)
  unfold ConfLib.length
  rw [if_pos hp]
  omega
theorem begin_at (a : ByteArray) (b : Int) {k : Nat} (hk : 10 < k) : pipe_Begin.f k n f d p r dr o s m fr t a b = some (beginV n f d p r dr o s m fr t a b) := by
  have hw := well_size n f d p r dr o s m fr t a
  have hl := length_facts n f d p r dr o s m fr t
  have hc := code_range (KingLib.start b).1 (KingLib.start b).2
  unfold pipe_Begin.f beginV
  rw [plain_at n f d p r dr o s m fr t hk]
  simp only [Option.bind_some]
  by_cases hp : plain n f d p r dr o s m fr t = 0
  · have h3 := len_pos n f d p r dr o s m fr t hp
    rw [if_pos hp, if_pos hp, sound_at n f d p r dr o s m fr t a hk, start_at]
    simp only [Option.bind_some]
    rw [code_at]
    simp only [Option.bind_some]
    rw [if_pos ⟨by omega, by omega, hc.1, hc.2⟩]
  · rw [if_neg hp, if_neg hp]
theorem ref_begin_ev (a : ByteArray) (b : Int) : Ev (fun k => r17Begin.f k n f d p r dr o s m fr t a b) (beginV n f d p r dr o s m fr t a b) := by
  have hw := well_size n f d p r dr o s m fr t a
  have hl := length_facts n f d p r dr o s m fr t
  have hc := code_range (KingLib.start b).1 (KingLib.start b).2
  refine Ev.congr (fun k => r17Begin.f.eq_1 ..) (Ev.bind (Ev.from 700 (fun k hk => ref_plain_at n f d p r dr o s m fr t hk)) ?_)
  unfold beginV
  by_cases hp : plain n f d p r dr o s m fr t = 0
  · have h3 := len_pos n f d p r dr o s m fr t hp
    rw [if_pos hp]
    refine Ev.pos hp (Ev.some_ (ref_start_at b) (Ev.some_ (ref_code_at _ _) (Ev.some_ (byte_at hc.1 (by omega)) (Ev.bind (ref_well_ev n f d p r dr o s m fr t a) (Ev.pos (by omega) (Ev.pos ?_ (Ev.val ?_)))))))
    · rw [txt_size]
      simp
      omega
    · refine Bytes.ext ?_
      rw [Bytes.append_list, put_list, Bytes.drop_list, txt_list]
      have hne : (well n f d p r dr o s m fr t a).data.toList.length = (well n f d p r dr o s m fr t a).size := data_length _
      cases hL : (well n f d p r dr o s m fr t a).data.toList with
      | nil => rw [hL] at hne; simp at hne; omega
      | cons x l => rfl
  · rw [if_neg hp]
    exact Ev.neg hp (Ev.val rfl)
end
end Go.Proofs.Ythblnnboeikgcaa.PipeLib
end
section
set_option linter.unusedVariables false
set_option linter.unusedSimpArgs false
namespace Go.Proofs.Ythblnnboeikgcaa.pipeTells
open Go.RowKit Go.Proofs.Ythblnnboeikgcaa.P Go.Proofs.YthblnnboeikgcaaW.PrintWords Go.Proofs.Ythblnnboeikgcaa.ConfLib Go.Proofs.Ythblnnboeikgcaa.KingLib Go.Proofs.Ythblnnboeikgcaa.VecLib Go.Proofs.Ythblnnboeikgcaa.PipeLib
theorem known : Ev (fun k => l17known.f k) true := Ev.of l17known.mono (show l17known.f 1000 = some true by decide +kernel)
theorem last : Ev (fun k => (l17known.f k).bind fun t => some t) true := Ev.bind known (Ev.val rfl)
theorem pure : Pure := by
  rintro ⟨n, f, d, p, r, dr, o, s, m, fr, t⟩ a b _ _ _
  refine Ev.rounds (r := true) ?_
  show Ev (fun k => l17PipeTells.f k n f d p r dr o s m fr t a b) true
  refine Ev.congr (fun k => l17PipeTells.f.eq_1 ..) ?_
  by_cases h1 : (a.size : Int) > 100
  · exact Ev.pos h1 last
  refine Ev.neg h1 ?_
  refine Ev.bind (Ev.from 10 (fun k hk => blank_at n f d p r dr o s m fr t hk)) (Ev.bind (ref_blank_ev n f d p r dr o s m fr t) (Ev.pos rfl ?_))
  refine Ev.bind (Ev.from 10 (fun k hk => tell_at n f d p r dr o s m fr t a hk)) (Ev.bind (ref_tell_ev n f d p r dr o s m fr t a) (Ev.pos rfl ?_))
  refine Ev.bind (Ev.from 10 (fun k hk => begin_at n f d p r dr o s m fr t a b hk)) (Ev.bind (ref_begin_ev n f d p r dr o s m fr t a b) (Ev.pos rfl ?_))
  exact last
end Go.Proofs.Ythblnnboeikgcaa.pipeTells
end
