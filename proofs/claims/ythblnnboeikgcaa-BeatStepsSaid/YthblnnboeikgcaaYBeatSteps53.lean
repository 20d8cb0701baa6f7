import Derived.Test.YthblnnboeikgcaaYBeatSteps52
set_option linter.unusedVariables false
set_option linter.unusedSimpArgs false
set_option linter.unusedSectionVars false
namespace Go.Proofs.Ythblnnboeikgcaa.PipeLib
open Go.RowKit Go.Proofs.Ythblnnboeikgcaa.B Go.Proofs.YthblnnboeikgcaaW.PrintWords Go.Proofs.YthblnnboeikgcaaW.PrintMore Go.Proofs.Ythblnnboeikgcaa.ConfLib Go.Proofs.Ythblnnboeikgcaa.TallyLib Go.Proofs.Ythblnnboeikgcaa.KingLib Go.Proofs.Ythblnnboeikgcaa.VecLib
section
variable (n f d p r dr o s m fr : Int) (t : List Int)
def ageV (VS : List ByteArray) (a : Nat) (c : Int) : Int := if PlanLib.hears n f d p r dr o s m fr t (a : Int) < 0 then c else hearV n f d p r dr o s m fr t (PlanLib.hears n f d p r dr o s m fr t (a : Int)).toNat c VS
theorem run_get (hd : 1 ≤ d) (VS : List ByteArray) (S : ByteArray) (q : Nat) (hq : ∀ j, j < q → pipe_Move.ix d j ≤ S.size) :
    (∀ i, (∀ j, j < q → pipe_Move.ix d j ≠ i) → (pipe_Move.run n f d p r dr o s m fr t VS S (List.range q)).getD i 0 = (pipe_Move.L0 S).getD i 0) ∧
    (∀ j, j < q → (pipe_Move.run n f d p r dr o s m fr t VS S (List.range q)).getD (pipe_Move.ix d j) 0 = hearV n f d p r dr o s m fr t j ((pipe_Move.L0 S).getD (pipe_Move.ix d j) 0) VS) := by
  have inj : ∀ {a b : Nat}, a < b → pipe_Move.ix d a ≠ pipe_Move.ix d b := by
    intro a b h e
    unfold pipe_Move.ix at e
    have h1 : ((a : Int) + 1) * d ≤ (b : Int) * d := Int.mul_le_mul_of_nonneg_right (by omega) (by omega)
    have h2 : ((a : Int) + 1) * d = (a : Int) * d + d := by rw [Int.add_mul, Int.one_mul]
    have h3 : 0 ≤ (a : Int) * d := Int.mul_nonneg (by omega) (by omega)
    omega
  induction q with
  | zero => exact ⟨fun i _ => rfl, fun j hj => absurd hj (Nat.not_lt_zero _)⟩
  | succ q ih =>
    obtain ⟨iA, iB⟩ := ih (fun j hj => hq j (by omega))
    have hlen := pipe_Move.run_len n f d p r dr o s m fr t VS S (List.range q)
    have hself := iA (pipe_Move.ix d q) (fun j hj => inj hj)
    have hlt : pipe_Move.ix d q < (pipe_Move.run n f d p r dr o s m fr t VS S (List.range q)).length := by
      rw [hlen]
      have := hq q (by omega)
      omega
    rw [List.range_succ, pipe_Move.run_snoc]
    unfold pipe_Move.st
    rw [hself]
    refine ⟨fun i hi => ?_, fun j hj => ?_⟩
    · have hne : pipe_Move.ix d q ≠ i := hi q (by omega)
      rw [List.getD_eq_getElem?_getD, List.getElem?_set_ne hne, ← List.getD_eq_getElem?_getD]
      exact iA i (fun j hj => hi j (by omega))
    · by_cases e : j = q
      · subst e
        rw [List.getD_eq_getElem?_getD, List.getElem?_set_self hlt]
        rfl
      · rw [List.getD_eq_getElem?_getD, List.getElem?_set_ne (Ne.symm (inj (by omega))), ← List.getD_eq_getElem?_getD]
        exact iB j (by omega)
theorem L0_zero (S : ByteArray) : (pipe_Move.L0 S).getD 0 0 = 48 := rfl
theorem L0_succ (S : ByteArray) {i : Nat} (hi : i < S.size) : (pipe_Move.L0 S).getD (i + 1) 0 = bt S (i : Int) := by
  show (pipe_sound.nums S).getD i 0 = _
  unfold pipe_sound.nums
  exact KW.getD_range (fun j => bt S (j : Int)) 0 hi
theorem all_get (hp : plain n f d p r dr o s m fr t = 0) (VS : List ByteArray) (S : ByteArray) (hS : (S.size : Int) = ConfLib.length n f d p r dr o s m fr t) (i : Nat) (hi : i < S.size) :
    (pipe_Move.all n f d p r dr o s m fr t VS S).getD (i + 1) 0 = ageV n f d p r dr o s m fr t VS (i + 1) (bt S (i : Int)) := by
  have hf := plain_facts hp
  have hd : 1 ≤ d ∧ d ≤ 4 := ⟨by omega, by omega⟩
  have hr : ConfLib.rounds n f d p r dr o s m fr t = 3 * (f + 1) := by unfold ConfLib.rounds; rw [if_pos hp]
  have hl : ConfLib.length n f d p r dr o s m fr t = 3 * (f + 1) * d := by unfold ConfLib.length; rw [if_pos hp]
  have hlf := length_facts n f d p r dr o s m fr t
  have hix : ∀ j, j < (ConfLib.rounds n f d p r dr o s m fr t).toNat → pipe_Move.ix d j ≤ S.size := by
    intro j hj
    have h1 : ((j : Int) + 1) * d ≤ 3 * (f + 1) * d := Int.mul_le_mul_of_nonneg_right (by omega) (by omega)
    have h2 : ((j : Int) + 1) * d = (j : Int) * d + d := by rw [Int.add_mul, Int.one_mul]
    unfold pipe_Move.ix
    omega
  obtain ⟨A, B⟩ := run_get n f d p r dr o s m fr t hd.1 VS S (ConfLib.rounds n f d p r dr o s m fr t).toNat hix
  have h0 := L0_succ S hi
  unfold pipe_Move.all ageV PlanLib.hears
  rw [if_pos hp]
  by_cases h1 : (((i + 1 : Nat) : Int)) < d
  · rw [if_pos h1, if_pos (by decide), ← h0]
    refine A _ (fun j hj e => ?_)
    have h3 : 0 ≤ (j : Int) * d := Int.mul_nonneg (by omega) (by omega)
    unfold pipe_Move.ix at e
    omega
  · rw [if_neg h1]
    rcases PlanLib.ex_cases (d := d) (r := 3 * (f + 1)) (t := ((i + 1 : Nat) : Int) - d) hd with ⟨e, hno⟩ | ⟨x, hx0, hx1, hx2, e⟩
    · rw [e, if_pos (by decide), ← h0]
      refine A _ (fun j hj e2 => ?_)
      have h3 : 0 ≤ (j : Int) * d := Int.mul_nonneg (by omega) (by omega)
      refine hno (j : Int) (by omega) (by omega) ?_
      unfold pipe_Move.ix at e2
      omega
    · rw [e, if_neg (by omega)]
      have e3 : pipe_Move.ix d x.toNat = i + 1 := by
        unfold pipe_Move.ix
        rw [Int.toNat_of_nonneg hx0]
        omega
      have := B x.toNat (by omega)
      rw [e3, h0] at this
      exact this
def lastV (VS : List ByteArray) (S : ByteArray) : Int := val ((pipe_Move.all n f d p r dr o s m fr t VS S).getD S.size 0)
def moveV (VS : List ByteArray) (a : ByteArray) : ByteArray × Int :=
  if plain n f d p r dr o s m fr t = 0 then (strOfNums ((pipe_Move.all n f d p r dr o s m fr t VS (well n f d p r dr o s m fr t a)).take (well n f d p r dr o s m fr t a).size), if lastV n f d p r dr o s m fr t VS (well n f d p r dr o s m fr t a) = 1 then 1 else 0) else (E0, 0)
theorem digits_one {y : Int} (h0 : 0 ≤ y) (h1 : y ≤ 255) : txt (vec_Values.digits (strOfNums [y])) = txt [val y] := by
  congr 1
  show List.map _ (List.range 1) = _
  show [vec_Values_1.digit (bt (strOfNums [y]) ((0 : Nat) : Int))] = _
  rw [show ((0 : Nat) : Int) = 0 from rfl, one_bt h0 h1]
theorem is_one {v : Int} (h0 : 0 ≤ v) (h1 : v ≤ 2) : txt [v] = (⟨#[49]⟩ : ByteArray) ↔ v = 1 := by
  have h : v = 0 ∨ v = 1 ∨ v = 2 := by omega
  rcases h with rfl | rfl | rfl <;> decide
theorem all_len (VS : List ByteArray) (S : ByteArray) : (pipe_Move.all n f d p r dr o s m fr t VS S).length = S.size + 1 := pipe_Move.run_len ..
theorem all_bytes (VS : List ByteArray) (S : ByteArray) (i : Nat) : 0 ≤ (pipe_Move.all n f d p r dr o s m fr t VS S).getD i 0 ∧ (pipe_Move.all n f d p r dr o s m fr t VS S).getD i 0 ≤ 255 := pipe_Move.run_bytes _ _ _ _ _ _ _ _ _ _ _ VS S _ i
theorem move_at (VS : List ByteArray) (hl : VS.length ≤ 1000000) (a : ByteArray) {k : Nat} (hk : 10 + VS.length < k) : pipe_Move.f k n f d p r dr o s m fr t a VS = some (moveV n f d p r dr o s m fr t VS a) := by
  unfold pipe_Move.f moveV lastV
  rw [if_pos ⟨hk, hl⟩]
  by_cases hp : plain n f d p r dr o s m fr t = 0
  · rw [if_pos hp, if_pos hp]
    generalize well n f d p r dr o s m fr t a = S
    have hb := all_bytes n f d p r dr o s m fr t VS S S.size
    unfold pipe_Move.out
    generalize pipe_Move.all n f d p r dr o s m fr t VS S = L at hb ⊢
    have hv := vec_Values_1.range (L.getD S.size 0)
    rw [values_at _ (by show 1 ≤ 140737488351232; decide)]
    simp only [Option.bind_some]
    rw [digits_one hb.1 hb.2]
    by_cases h : val (L.getD S.size 0) = 1
    · rw [if_pos h, if_pos ((is_one hv.1 hv.2).2 h)]
    · rw [if_neg h, if_neg (fun e => h ((is_one hv.1 hv.2).1 e))]
  · rw [if_neg hp, if_neg hp]
theorem stepD_one (x : Nat) (c : Int) (h0 : 0 ≤ c) (h1 : c ≤ 255) (VS : List ByteArray) (boss : ByteArray) (hb : vote boss 0 = vote (VS.getD (x / 3) ByteArray.empty) (x : Int)) :
    txt (stepD n f d p r dr o s m fr t (x : Int) (strOfNums [c]) boss (VS.map (part x))) = strOfNums [hearV n f d p r dr o s m fr t x c VS] := by
  have hvotes : (VS.map (part x)).map (fun z => vote z 0) = VS.map (fun z => vote z (x : Int)) := by
    rw [List.map_map]
    exact List.map_congr_left (fun z _ => vote_part x z)
  have hd : stepD n f d p r dr o s m fr t (x : Int) (strOfNums [c]) boss (VS.map (part x)) = [newCode n f d p r dr o s m fr t (x : Int) c (vote (VS.getD (x / 3) ByteArray.empty) (x : Int)) (VS.map (fun z => vote z (x : Int)))] := by
    show List.map _ (List.range 1) = _
    show [newCode n f d p r dr o s m fr t (x : Int) (bt (strOfNums [c]) ((0 : Nat) : Int)) (vote boss ((0 : Nat) : Int)) ((VS.map (part x)).map (fun z => vote z ((0 : Nat) : Int)))] = _
    rw [show ((0 : Nat) : Int) = 0 from rfl, one_bt h0 h1, hb, hvotes]
  rw [hd]
  rfl
theorem ref_part_at (z : ByteArray) (x : Nat) (hx : x ≤ 1000000) : r17part.f z (x : Int) = some (part x z) := by
  unfold r17part.f part
  rw [if_neg (by omega)]
  by_cases h : x < z.size
  · rw [if_neg (by omega), if_pos (by omega), ConfLib.wrap_small (n := (x : Int) + 1) (by omega) (by omega), if_pos (by omega), if_pos (by omega), if_pos h]
    rfl
  · rw [if_pos (by omega), if_neg h]
theorem ref_older_ev (hp : plain n f d p r dr o s m fr t = 0) (c : Int) (h0 : 0 ≤ c) (h1 : c ≤ 255) (a : Nat) (VS : List ByteArray) (hl : VS.length ≤ 1000) :
    Ev (fun k => r17older.f k n f d p r dr o s m fr t (strOfNums [c]) (a : Int) VS) (strOfNums [ageV n f d p r dr o s m fr t VS a c]) := by
  have hf := plain_facts hp
  have hr := PlanLib.rounds_facts (n := n) (f := f) (d := d) (p := p) (r := r) (dr := dr) (o := o) (s := s) (m := m) (fr := fr) (t := t)
  have hrg := PlanLib.hears_range n f d p r dr o s m fr t (a : Int)
  have hsm := PlanLib.hears_small (n := n) (f := f) (d := d) (p := p) (r := r) (dr := dr) (o := o) (s := s) (m := m) (fr := fr) (t := t) (age := (a : Int)) hp
  have hrr : ConfLib.rounds n f d p r dr o s m fr t = 3 * (f + 1) := by unfold ConfLib.rounds; rw [if_pos hp]
  refine Ev.congr (fun k => r17older.f.eq_1 ..) (Ev.bind (Ev.from 1000 (fun k hk => PlanLib.ref_hears_at n f d p r dr o s m fr t (a : Int) hk)) ?_)
  unfold ageV
  generalize PlanLib.hears n f d p r dr o s m fr t (a : Int) = y at hrg hsm ⊢
  by_cases hy : y < 0
  · rw [if_pos hy]
    exact Ev.pos hy (Ev.val rfl)
  rw [if_neg hy]
  obtain ⟨x, rfl⟩ := Int.eq_ofNat_of_zero_le (show 0 ≤ y by omega)
  have hx3 := hsm (by omega)
  have hlen : (VS.map (part x)).length = VS.length := List.length_map ..
  have key : ∀ (q i : Nat), i + q = VS.length → Ev (fun k => r17older.l0 k (strOfNums [c]) VS (x : Int) ((VS.map (part x)).take i) (i : Int) n f d p r dr o s m fr t) (strOfNums [hearV n f d p r dr o s m fr t x c VS]) := by
    intro q
    induction q with
    | zero =>
      intro i hi
      have hking : PlanLib.king n f d p r dr o s m fr t (x : Int) = ((x / 3 : Nat) : Int) := by
        unfold PlanLib.king
        rw [if_neg (by omega)]
        omega
      refine Ev.step (fun k => r17older.l0.eq_2 ..) (Ev.neg (by omega) ?_)
      rw [List.take_of_length_le (by omega)]
      refine Ev.bind (Ev.from 1000 (fun k hk => (PlanLib.ref_king_at n f d p r dr o s m fr t (x : Int) hk).trans (by rw [hking]))) (Ev.pos (by omega) ?_)
      by_cases hb : x / 3 < VS.length
      · refine Ev.pos (by rw [hlen]; omega) (Ev.pos (by omega) (Ev.bind (ref_vstep_ev n f d p r dr o s m fr t (x : Int) (strOfNums [c]) _ (VS.map (part x)) (by show 1 ≤ 1000; decide) (by omega)) (Ev.val ?_)))
        refine stepD_one n f d p r dr o s m fr t x c h0 h1 VS _ ?_
        rw [rdOf_at (by rw [hlen]; exact hb), List.getElem_map, vote_part]
        simp [List.getD_eq_getElem?_getD, hb]
      · refine Ev.neg (by rw [hlen]; omega) (Ev.bind (ref_vstep_ev n f d p r dr o s m fr t (x : Int) (strOfNums [c]) _ (VS.map (part x)) (by show 1 ≤ 1000; decide) (by omega)) (Ev.val ?_))
        refine stepD_one n f d p r dr o s m fr t x c h0 h1 VS _ ?_
        rw [show VS.getD (x / 3) ByteArray.empty = ByteArray.empty by simp [List.getD_eq_getElem?_getD, hb], vote_empty]
        unfold vote vec_Step_1.vote
        rw [if_pos (.inl (by decide))]
    | succ q ih =>
      intro i hi
      have hlt : i < VS.length := by omega
      have go := ih (i + 1) (by omega)
      have hs2 : (VS.map (part x)).take i ++ [part x VS[i]] = (VS.map (part x)).take (i + 1) := by
        rw [List.take_succ_eq_append_getElem (by rw [hlen]; exact hlt), List.getElem_map]
      rw [← hs2, ← succ_w (by omega)] at go
      refine Ev.step (fun k => r17older.l0.eq_2 ..) (Ev.pos (by omega) (Ev.pos (by omega) ?_))
      rw [rdOf_at hlt]
      refine Ev.some_ (ref_part_at _ x (by omega)) (Ev.pos ?_ go)
      rw [List.length_take]
      omega
  exact key VS.length 0 (by omega)
theorem extract_one (S : ByteArray) {i : Nat} (hi : i < S.size) : S.extract i (i + 1) = strOfNums [bt S (i : Int)] := by
  have h9 : i < S.data.toList.length := by rw [data_length]; exact hi
  refine Bytes.ext ?_
  rw [Bytes.extract_list, show i + 1 - i = 1 by omega, List.drop_eq_getElem_cons h9, Bytes.bt_nat S i hi]
  simp [strOfNums]
theorem ref_move_ev (VS : List ByteArray) (hl : VS.length ≤ 1000) (a : ByteArray) : Ev (fun k => r17Move.f k n f d p r dr o s m fr t a VS) (moveV n f d p r dr o s m fr t VS a) := by
  refine Ev.congr (fun k => r17Move.f.eq_1 ..) (Ev.bind (Ev.from 700 (fun k hk => ref_plain_at n f d p r dr o s m fr t hk)) ?_)
  unfold moveV lastV
  by_cases hp : plain n f d p r dr o s m fr t = 0
  case neg =>
    rw [if_neg hp]
    exact Ev.neg hp (Ev.val rfl)
  rw [if_pos hp]
  refine Ev.pos hp (Ev.bind (ref_well_ev n f d p r dr o s m fr t a) ?_)
  have hw := well_size n f d p r dr o s m fr t a
  have hlf := length_facts n f d p r dr o s m fr t
  have h3 := len_pos n f d p r dr o s m fr t hp
  generalize well n f d p r dr o s m fr t a = S at hw ⊢
  have hlen := all_len n f d p r dr o s m fr t VS S
  have hby := all_bytes n f d p r dr o s m fr t VS S
  have hget := all_get n f d p r dr o s m fr t hp VS S hw
  have hfirst : (pipe_Move.all n f d p r dr o s m fr t VS S).getD 0 0 = 48 := by
    have hf := plain_facts hp
    have hr : ConfLib.rounds n f d p r dr o s m fr t = 3 * (f + 1) := by unfold ConfLib.rounds; rw [if_pos hp]
    have hle : ConfLib.length n f d p r dr o s m fr t = 3 * (f + 1) * d := by unfold ConfLib.length; rw [if_pos hp]
    refine ((run_get n f d p r dr o s m fr t (by omega) VS S _ (fun j hj => ?_)).1 0 (fun j hj e => ?_)).trans (L0_zero S)
    · have h1 : ((j : Int) + 1) * d ≤ 3 * (f + 1) * d := Int.mul_le_mul_of_nonneg_right (by omega) (by omega)
      have h2 : ((j : Int) + 1) * d = (j : Int) * d + d := by rw [Int.add_mul, Int.one_mul]
      unfold pipe_Move.ix
      omega
    · have h3 : 0 ≤ (j : Int) * d := Int.mul_nonneg (by omega) (by omega)
      unfold pipe_Move.ix at e
      omega
  generalize pipe_Move.all n f d p r dr o s m fr t VS S = L at hlen hby hget hfirst ⊢
  have grow : ∀ i, i < S.size → strOfNums (L.take i) ++ strOfNums [L.getD i 0] = strOfNums (L.take (i + 1)) := by
    intro i hi
    rw [← Bytes.strOf_append, List.take_succ_eq_append_getElem (by omega)]
    simp [List.getD_eq_getElem?_getD, show i < L.length by omega]
  have hsz : ∀ i, i ≤ S.size → (strOfNums (L.take i)).size = i := by
    intro i hi
    rw [Bytes.size_list]
    simp [strOfNums]
    omega
  have key : ∀ (q i : Nat), i + q = S.size → 1 ≤ i → Ev (fun k => r17Move.l0 k VS S (strOfNums (L.take i)) (i : Int) n f d p r dr o s m fr t) (strOfNums (L.take S.size), if val (L.getD S.size 0) = 1 then 1 else 0) := by
    intro q
    induction q with
    | zero =>
      intro i hi hi1
      obtain rfl : i = S.size := by omega
      obtain ⟨N, hN⟩ : ∃ N, S.size = N + 1 := ⟨S.size - 1, by omega⟩
      have hb := bt_range S (N : Int)
      have hg := hget N (by omega)
      have hx := extract_one S (i := N) (by omega)
      rw [hN]
      have hL := hby (N + 1)
      have hv := vec_Values_1.range (L.getD (N + 1) 0)
      refine Ev.step (fun k => r17Move.l0.eq_2 ..) (Ev.neg (by omega) ?_)
      rw [hN, ConfLib.wrap_small (n := ((N + 1 : Nat) : Int) - 1) (by omega) (by omega), show ((N + 1 : Nat) : Int) - 1 = (N : Int) by omega]
      refine Ev.pos (by omega) (Ev.pos (by omega) ?_)
      rw [Int.toNat_natCast, hx]
      refine Ev.bind (ref_older_ev n f d p r dr o s m fr t hp _ hb.1 hb.2 (N + 1) VS hl) ?_
      rw [← hg]
      refine Ev.bind (ref_values_ev _ (by show 1 ≤ 1000; decide)) ?_
      rw [digits_one hL.1 hL.2]
      have h49 : (⟨#[49]⟩ : ByteArray).toList = ([49] : List UInt8) := by decide +kernel
      by_cases h : val (L.getD (N + 1) 0) = 1
      · rw [if_pos h]
        exact Ev.pos (by rw [(is_one hv.1 hv.2).2 h]; exact h49) (Ev.val rfl)
      · rw [if_neg h]
        exact Ev.neg (fun e => h ((is_one hv.1 hv.2).1 (Bytes.ext_iff.1 (e.trans h49.symm)))) (Ev.val rfl)
    | succ q ih =>
      intro i hi hi1
      obtain ⟨N, rfl⟩ : ∃ N, i = N + 1 := ⟨i - 1, by omega⟩
      have hb := bt_range S (N : Int)
      have hg := hget N (by omega)
      have go := ih (N + 1 + 1) (by omega) (by omega)
      rw [← grow (N + 1) (by omega), ← succ_w (by omega), hg] at go
      refine Ev.step (fun k => r17Move.l0.eq_2 ..) (Ev.pos (by omega) ?_)
      rw [ConfLib.wrap_small (n := ((N + 1 : Nat) : Int) - 1) (by omega) (by omega), show ((N + 1 : Nat) : Int) - 1 = (N : Int) by omega]
      refine Ev.pos (by omega) (Ev.pos (by omega) (Ev.pos (by omega) ?_))
      rw [Int.toNat_natCast, Int.toNat_natCast, extract_one S (by omega)]
      refine Ev.bind (ref_older_ev n f d p r dr o s m fr t hp _ hb.1 hb.2 (N + 1) VS hl) (Ev.pos ?_ go)
      rw [hsz _ (by omega)]
      show N + 1 + 1 ≤ _
      omega
  have h48 : (⟨#[48]⟩ : ByteArray) = strOfNums (L.take 1) := by
    have h9 : 0 < L.length := by omega
    have e : L.take 1 = [48] := by
      rw [List.take_succ_eq_append_getElem h9]
      simp [List.getD_eq_getElem?_getD, h9] at hfirst
      simp [hfirst]
    rw [e]
    rfl
  rw [h48]
  exact key (S.size - 1) 1 (by omega) (Nat.le_refl _)
theorem move_ev (VS : List ByteArray) (hl : VS.length ≤ 1000000) (a : ByteArray) : Ev (fun k => pipe_Move.f k n f d p r dr o s m fr t a VS) (moveV n f d p r dr o s m fr t VS a) :=
  Ev.from (10 + VS.length) (fun k hk => move_at n f d p r dr o s m fr t VS hl a hk)
end
end Go.Proofs.Ythblnnboeikgcaa.PipeLib
