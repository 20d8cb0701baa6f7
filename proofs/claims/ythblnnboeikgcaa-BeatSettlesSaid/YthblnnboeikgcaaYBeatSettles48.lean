import Derived.Test.YthblnnboeikgcaaYBeatSettles47
section
set_option linter.unusedVariables false
set_option linter.unusedSimpArgs false
namespace Go.Proofs.Ythblnnboeikgcaa.PlanLib
open Go.RowKit Go.Proofs.Ythblnnboeikgcaa.B Go.Proofs.YthblnnboeikgcaaW.PrintWords Go.Proofs.Ythblnnboeikgcaa.ConfLib
def sat (a m : Int) : Int := if a < 0 ∨ m < 0 then 0 else if a ≥ m then m else a + 1
theorem sat_at (a m : Int) (hm : m ≤ 1000000) {k : Nat} (hk : 0 < k) : num_Sat.f k a m = some (sat a m) := by
  obtain ⟨k, rfl⟩ : ∃ j, k = j + 1 := ⟨k - 1, by omega⟩
  unfold num_Sat.f sat
  by_cases h1 : a < 0
  · rw [if_pos h1, if_pos (.inl h1)]
    simp only [num_Sat.j0]
    rw [if_pos (decide_eq_true h1)]
  · rw [if_neg h1]
    simp only [num_Sat.j0]
    by_cases h2 : m < 0
    · rw [if_pos (decide_eq_true h2), if_pos (.inr h2)]
    · rw [if_neg (by simpa using h2), if_neg (show ¬ (a < 0 ∨ m < 0) by omega)]
      by_cases h3 : a ≥ m
      · rw [if_pos h3, if_pos h3]
      · rw [if_neg h3, if_neg h3, ConfLib.wrap_small (by omega) (by omega)]
end Go.Proofs.Ythblnnboeikgcaa.PlanLib
end
section
set_option linter.unusedVariables false
set_option linter.unusedSimpArgs false
set_option linter.unusedSectionVars false
namespace Go.Proofs.Ythblnnboeikgcaa.PipeLib
open Go.RowKit Go.Proofs.Ythblnnboeikgcaa.B Go.Proofs.YthblnnboeikgcaaW.PrintWords Go.Proofs.YthblnnboeikgcaaW.PrintMore Go.Proofs.Ythblnnboeikgcaa.ConfLib Go.Proofs.Ythblnnboeikgcaa.TallyLib Go.Proofs.Ythblnnboeikgcaa.KingLib Go.Proofs.Ythblnnboeikgcaa.VecLib
section
variable (n f d p r dr o s m fr : Int) (t : List Int)
def tellD (a : ByteArray) : List Int := (List.range (ConfLib.rounds n f d p r dr o s m fr t).toNat).map (fun (j : Nat) => val (bt (well n f d p r dr o s m fr t a) ((j : Int) * d)))
def tellV (a : ByteArray) : ByteArray := txt (tellD n f d p r dr o s m fr t a)
theorem jd_facts (a : ByteArray) {j : Nat} (hj : j < (ConfLib.rounds n f d p r dr o s m fr t).toNat) : plain n f d p r dr o s m fr t = 0 ∧ 1 ≤ d ∧ d ≤ 4 ∧ 0 ≤ (j : Int) * d ∧ (j : Int) * d ≤ 60 ∧ (j : Int) * d + d ≤ ((well n f d p r dr o s m fr t a).size : Int) := by
  have hw := well_size n f d p r dr o s m fr t a
  by_cases hp : plain n f d p r dr o s m fr t = 0
  · have hf := plain_facts hp
    have hr : ConfLib.rounds n f d p r dr o s m fr t = 3 * (f + 1) := by unfold ConfLib.rounds; rw [if_pos hp]
    have hl : ConfLib.length n f d p r dr o s m fr t = 3 * (f + 1) * d := by unfold ConfLib.length; rw [if_pos hp]
    have hle := length_facts n f d p r dr o s m fr t
    rw [hw, hl]
    rw [hl] at hle
    have h1 : ((j : Int) + 1) * d ≤ 3 * (f + 1) * d := Int.mul_le_mul_of_nonneg_right (by omega) (by omega)
    have h2 : ((j : Int) + 1) * d = (j : Int) * d + d := by rw [Int.add_mul, Int.one_mul]
    have h3 : 0 ≤ (j : Int) * d := Int.mul_nonneg (by omega) (by omega)
    exact ⟨hp, by omega, by omega, h3, by omega, by omega⟩
  · have hr : ConfLib.rounds n f d p r dr o s m fr t = 0 := by unfold ConfLib.rounds; rw [if_neg hp]
    rw [hr] at hj
    exact absurd hj (by decide +revert)
theorem val_get (S : ByteArray) (y : Int) (h0 : 0 ≤ y) (h1 : y < (S.size : Int)) : bt (txt (vec_Values.digits S)) y = 48 + val (bt S y) := by
  obtain ⟨i, rfl⟩ := Int.eq_ofNat_of_zero_le h0
  have hi : i < S.size := by omega
  have hg := values_get S hi
  have hv := vec_Values_1.range (bt S (i : Int))
  have := txt_bt (vec_Values.digits S) (j := i) (by rw [values_len]; exact hi) (by rw [hg]; exact hv.1) (by rw [hg]; show vec_Values_1.digit _ ≤ 200; omega)
  rw [hg] at this
  exact this
theorem tell_at (a : ByteArray) {k : Nat} (hk : 10 < k) : pipe_Tell.f k n f d p r dr o s m fr t a = some (tellV n f d p r dr o s m fr t a) := by
  have hw := well_size n f d p r dr o s m fr t a
  have hl := length_facts n f d p r dr o s m fr t
  have hr := PlanLib.rounds_facts (n := n) (f := f) (d := d) (p := p) (r := r) (dr := dr) (o := o) (s := s) (m := m) (fr := fr) (t := t)
  unfold pipe_Tell.f
  rw [sound_at n f d p r dr o s m fr t a hk]
  simp only [Option.bind_some]
  rw [values_at _ (by omega), rounds_at n f d p r dr o s m fr t hk]
  simp only [Option.bind_some]
  rw [if_pos]
  · congr 1
    unfold tellV tellD pipe_Tell.told txt
    rw [List.map_map]
    congr 1
    refine List.map_congr_left (fun j hj => ?_)
    have h := jd_facts n f d p r dr o s m fr t a (List.mem_range.1 hj)
    exact val_get _ _ h.2.2.2.1 (by omega)
  · refine ⟨hr.1, hr.2, ?_, by omega, fun j hj => ?_⟩
    · by_cases hp : plain n f d p r dr o s m fr t = 0
      · have hf := plain_facts hp
        exact .inr ⟨by omega, by omega⟩
      · exact .inl (by unfold ConfLib.rounds; rw [if_neg hp])
    · have h := jd_facts n f d p r dr o s m fr t a hj
      rw [txt_size, values_len]
      omega
theorem put_list (S : ByteArray) (i : Nat) (x : Int) : (pipe_sound.put S i x).data.toList = S.data.toList.set i (UInt8.ofNat x.toNat) := by
  have hw : (strOfNums (pipe_sound.nums S)).data.toList = S.data.toList := by rw [pipe_sound.whole]
  have h : ∀ xs : List Int, (strOfNums xs).data.toList = xs.map (fun z => UInt8.ofNat z.toNat) := fun xs => by simp [strOfNums]
  rw [h] at hw
  show (strOfNums ((pipe_sound.nums S).set i x)).data.toList = _
  rw [h, List.map_set, hw]
def beginV (a : ByteArray) (b : Int) : ByteArray := if plain n f d p r dr o s m fr t = 0 then pipe_sound.put (well n f d p r dr o s m fr t a) 0 (48 + code (KingLib.start b).1 (KingLib.start b).2) else E0
theorem len_pos (hp : plain n f d p r dr o s m fr t = 0) : 3 ≤ ConfLib.length n f d p r dr o s m fr t := by
  have hf := plain_facts hp
  have := mul_d (f := f) (d := d) (by omega) (by omega)
  unfold ConfLib.length
  rw [if_pos hp]
  omega
theorem begin_at (a : ByteArray) (b : Int) {k : Nat} (hk : 10 < k) : pipe_Begin.f k n f d p r dr o s m fr t a b = some (beginV n f d p r dr o s m fr t a b) := by
  have hw := well_size n f d p r dr o s m fr t a
  have hl := length_facts n f d p r dr o s m fr t
  have hc := code_range (KingLib.start b).1 (KingLib.start b).2
  unfold pipe_Begin.f beginV
  rw [plain_at n f d p r dr o s m fr t hk]
  simp only [Option.bind_some]
  by_cases hp : plain n f d p r dr o s m fr t = 0
  · have h3 := len_pos n f d p r dr o s m fr t hp
    rw [if_pos hp, if_pos hp, sound_at n f d p r dr o s m fr t a hk, start_at]
    simp only [Option.bind_some]
    rw [code_at]
    simp only [Option.bind_some]
    rw [if_pos ⟨by omega, by omega, hc.1, hc.2⟩]
  · rw [if_neg hp, if_neg hp]
end
end Go.Proofs.Ythblnnboeikgcaa.PipeLib
end
section
set_option linter.unusedVariables false
set_option linter.unusedSimpArgs false
set_option linter.unusedSectionVars false
namespace Go.Proofs.Ythblnnboeikgcaa.PipeLib
open Go.RowKit Go.Proofs.Ythblnnboeikgcaa.B Go.Proofs.YthblnnboeikgcaaW.PrintWords Go.Proofs.YthblnnboeikgcaaW.PrintMore Go.Proofs.Ythblnnboeikgcaa.ConfLib Go.Proofs.Ythblnnboeikgcaa.TallyLib Go.Proofs.Ythblnnboeikgcaa.KingLib Go.Proofs.Ythblnnboeikgcaa.VecLib
section
variable (n f d p r dr o s m fr : Int) (t : List Int)
def ageV (VS : List ByteArray) (a : Nat) (c : Int) : Int := if PlanLib.hears n f d p r dr o s m fr t (a : Int) < 0 then c else hearV n f d p r dr o s m fr t (PlanLib.hears n f d p r dr o s m fr t (a : Int)).toNat c VS
theorem run_get (hd : 1 ≤ d) (VS : List ByteArray) (S : ByteArray) (q : Nat) (hq : ∀ j, j < q → pipe_Move.ix d j ≤ S.size) :
    (∀ i, (∀ j, j < q → pipe_Move.ix d j ≠ i) → (pipe_Move.run n f d p r dr o s m fr t VS S (List.range q)).getD i 0 = (pipe_Move.L0 S).getD i 0) ∧
    (∀ j, j < q → (pipe_Move.run n f d p r dr o s m fr t VS S (List.range q)).getD (pipe_Move.ix d j) 0 = hearV n f d p r dr o s m fr t j ((pipe_Move.L0 S).getD (pipe_Move.ix d j) 0) VS) := by
  have inj : ∀ {a b : Nat}, a < b → pipe_Move.ix d a ≠ pipe_Move.ix d b := by
    intro a b h e
    unfold pipe_Move.ix at e
    have h1 : ((a : Int) + 1) * d ≤ (b : Int) * d := Int.mul_le_mul_of_nonneg_right (by omega) (by omega)
    have h2 : ((a : Int) + 1) * d = (a : Int) * d + d := by rw [Int.add_mul, Int.one_mul]
    have h3 : 0 ≤ (a : Int) * d := Int.mul_nonneg (by omega) (by omega)
    omega
  induction q with
  | zero => exact ⟨fun i _ => rfl, fun j hj => absurd hj (Nat.not_lt_zero _)⟩
  | succ q ih =>
    obtain ⟨iA, iB⟩ := ih (fun j hj => hq j (by omega))
    have hlen := pipe_Move.run_len n f d p r dr o s m fr t VS S (List.range q)
    have hself := iA (pipe_Move.ix d q) (fun j hj => inj hj)
    have hlt : pipe_Move.ix d q < (pipe_Move.run n f d p r dr o s m fr t VS S (List.range q)).length := by
      rw [hlen]
      have := hq q (by omega)
      omega
    rw [List.range_succ, pipe_Move.run_snoc]
    unfold pipe_Move.st
    rw [hself]
    refine ⟨fun i hi => ?_, fun j hj => ?_⟩
    · have hne : pipe_Move.ix d q ≠ i := hi q (by omega)
      rw [List.getD_eq_getElem?_getD, List.getElem?_set_ne hne, ← List.getD_eq_getElem?_getD]
      exact iA i (fun j hj => hi j (by omega))
    · by_cases e : j = q
      · subst e
        rw [List.getD_eq_getElem?_getD, List.getElem?_set_self hlt]
        rfl
      · rw [List.getD_eq_getElem?_getD, List.getElem?_set_ne (Ne.symm (inj (by omega))), ← List.getD_eq_getElem?_getD]
        exact iB j (by omega)
theorem L0_succ (S : ByteArray) {i : Nat} (hi : i < S.size) : (pipe_Move.L0 S).getD (i + 1) 0 = bt S (i : Int) := by
  show (pipe_sound.nums S).getD i 0 = _
  unfold pipe_sound.nums
  exact KW.getD_range (fun j => bt S (j : Int)) 0 hi
theorem all_get (hp : plain n f d p r dr o s m fr t = 0) (VS : List ByteArray) (S : ByteArray) (hS : (S.size : Int) = ConfLib.length n f d p r dr o s m fr t) (i : Nat) (hi : i < S.size) :
    (pipe_Move.all n f d p r dr o s m fr t VS S).getD (i + 1) 0 = ageV n f d p r dr o s m fr t VS (i + 1) (bt S (i : Int)) := by
  have hf := plain_facts hp
  have hd : 1 ≤ d ∧ d ≤ 4 := ⟨by omega, by omega⟩
  have hr : ConfLib.rounds n f d p r dr o s m fr t = 3 * (f + 1) := by unfold ConfLib.rounds; rw [if_pos hp]
  have hl : ConfLib.length n f d p r dr o s m fr t = 3 * (f + 1) * d := by unfold ConfLib.length; rw [if_pos hp]
  have hlf := length_facts n f d p r dr o s m fr t
  have hix : ∀ j, j < (ConfLib.rounds n f d p r dr o s m fr t).toNat → pipe_Move.ix d j ≤ S.size := by
    intro j hj
    have h1 : ((j : Int) + 1) * d ≤ 3 * (f + 1) * d := Int.mul_le_mul_of_nonneg_right (by omega) (by omega)
    have h2 : ((j : Int) + 1) * d = (j : Int) * d + d := by rw [Int.add_mul, Int.one_mul]
    unfold pipe_Move.ix
    omega
  obtain ⟨A, B⟩ := run_get n f d p r dr o s m fr t hd.1 VS S (ConfLib.rounds n f d p r dr o s m fr t).toNat hix
  have h0 := L0_succ S hi
  unfold pipe_Move.all ageV PlanLib.hears
  rw [if_pos hp]
  by_cases h1 : (((i + 1 : Nat) : Int)) < d
  · rw [if_pos h1, if_pos (by decide), ← h0]
    refine A _ (fun j hj e => ?_)
    have h3 : 0 ≤ (j : Int) * d := Int.mul_nonneg (by omega) (by omega)
    unfold pipe_Move.ix at e
    omega
  · rw [if_neg h1]
    rcases PlanLib.ex_cases (d := d) (r := 3 * (f + 1)) (t := ((i + 1 : Nat) : Int) - d) hd with ⟨e, hno⟩ | ⟨x, hx0, hx1, hx2, e⟩
    · rw [e, if_pos (by decide), ← h0]
      refine A _ (fun j hj e2 => ?_)
      have h3 : 0 ≤ (j : Int) * d := Int.mul_nonneg (by omega) (by omega)
      refine hno (j : Int) (by omega) (by omega) ?_
      unfold pipe_Move.ix at e2
      omega
    · rw [e, if_neg (by omega)]
      have e3 : pipe_Move.ix d x.toNat = i + 1 := by
        unfold pipe_Move.ix
        rw [Int.toNat_of_nonneg hx0]
        omega
      have := B x.toNat (by omega)
      rw [e3, h0] at this
      exact this
def lastV (VS : List ByteArray) (S : ByteArray) : Int := val ((pipe_Move.all n f d p r dr o s m fr t VS S).getD S.size 0)
def moveV (VS : List ByteArray) (a : ByteArray) : ByteArray × Int :=
  if plain n f d p r dr o s m fr t = 0 then (strOfNums ((pipe_Move.all n f d p r dr o s m fr t VS (well n f d p r dr o s m fr t a)).take (well n f d p r dr o s m fr t a).size), if lastV n f d p r dr o s m fr t VS (well n f d p r dr o s m fr t a) = 1 then 1 else 0) else (E0, 0)
theorem digits_one {y : Int} (h0 : 0 ≤ y) (h1 : y ≤ 255) : txt (vec_Values.digits (strOfNums [y])) = txt [val y] := by
  congr 1
  show List.map _ (List.range 1) = _
  show [vec_Values_1.digit (bt (strOfNums [y]) ((0 : Nat) : Int))] = _
  rw [show ((0 : Nat) : Int) = 0 from rfl, one_bt h0 h1]
theorem is_one {v : Int} (h0 : 0 ≤ v) (h1 : v ≤ 2) : txt [v] = (⟨#[49]⟩ : ByteArray) ↔ v = 1 := by
  have h : v = 0 ∨ v = 1 ∨ v = 2 := by omega
  rcases h with rfl | rfl | rfl <;> decide
theorem all_len (VS : List ByteArray) (S : ByteArray) : (pipe_Move.all n f d p r dr o s m fr t VS S).length = S.size + 1 := pipe_Move.run_len ..
theorem all_bytes (VS : List ByteArray) (S : ByteArray) (i : Nat) : 0 ≤ (pipe_Move.all n f d p r dr o s m fr t VS S).getD i 0 ∧ (pipe_Move.all n f d p r dr o s m fr t VS S).getD i 0 ≤ 255 := pipe_Move.run_bytes _ _ _ _ _ _ _ _ _ _ _ VS S _ i
theorem move_at (VS : List ByteArray) (hl : VS.length ≤ 1000000) (a : ByteArray) {k : Nat} (hk : 10 + VS.length < k) : pipe_Move.f k n f d p r dr o s m fr t a VS = some (moveV n f d p r dr o s m fr t VS a) := by
  unfold pipe_Move.f moveV lastV
  rw [if_pos ⟨hk, hl⟩]
  by_cases hp : plain n f d p r dr o s m fr t = 0
  · rw [if_pos hp, if_pos hp]
    generalize well n f d p r dr o s m fr t a = S
    have hb := all_bytes n f d p r dr o s m fr t VS S S.size
    unfold pipe_Move.out
    generalize pipe_Move.all n f d p r dr o s m fr t VS S = L at hb ⊢
    have hv := vec_Values_1.range (L.getD S.size 0)
    rw [values_at _ (by show 1 ≤ 140737488351232; decide)]
    simp only [Option.bind_some]
    rw [digits_one hb.1 hb.2]
    by_cases h : val (L.getD S.size 0) = 1
    · rw [if_pos h, if_pos ((is_one hv.1 hv.2).2 h)]
    · rw [if_neg h, if_neg (fun e => h ((is_one hv.1 hv.2).1 e))]
  · rw [if_neg hp, if_neg hp]
theorem move_ev (VS : List ByteArray) (hl : VS.length ≤ 1000000) (a : ByteArray) : Ev (fun k => pipe_Move.f k n f d p r dr o s m fr t a VS) (moveV n f d p r dr o s m fr t VS a) :=
  Ev.from (10 + VS.length) (fun k hk => move_at n f d p r dr o s m fr t VS hl a hk)
end
end Go.Proofs.Ythblnnboeikgcaa.PipeLib
end
section
namespace Go.Proofs.Ythblnnboeikgcaa.B
open Go.RowKit Go.Proofs.YthblnnboeikgcaaW.PrintWords Go.Proofs.YthblnnboeikgcaaW.PrintLast Go.Proofs.YthblnnboeikgcaaW.PrintMore
attribute [local go_sem] max2_int min2_int max_two min_two max_three min_three max_four min_four   -- for this text's walks alone
set_option linter.unusedVariables false
set_option linter.unusedSimpArgs false
def r18Step.T3 : Bool × List (List Nat × List Nat) := (true, [([], []), ([], []), ([], []), ([], []), ([2, 3], [2, 3]), ([0, 1, 4, 4], [0, 1, 4]), ([], []), ([], []), ([], []), ([8], [8]), ([5, 5, 0, 1, 2, 3, 4, 5], [5]), ([6, 10, 0, 1, 2, 3, 4, 5, 6, 10], [6]), ([7, 11, 0, 1, 2, 3, 4, 5, 6, 7, 10, 11], [7]), ([9, 12, 0, 1, 2, 3, 4, 5, 6, 7, 8, 9, 10, 11, 12], [9])])
def r18Step.B3 : List Nat := [0, 0, 0, 0, 12, 31, 0, 0, 0, 256, 63, 1151, 3327, 8191]
theorem r18Step.tab3 : rtab .any (opsOf Try.f48 3) = r18Step.T3 := by kernel_rfl
theorem r18Step.bits3 : waitsOk r18Step.T3.2 r18Step.B3 = true := by kernel_rfl
end Go.Proofs.Ythblnnboeikgcaa.B
end
