import Derived.Test.YthblnnboeikgcaaYBeatSettles32
import Derived.Test.YthblnnboeikgcaaYBeatSettles31
section
set_option linter.unusedVariables false
set_option linter.unusedSimpArgs false
namespace Go.Proofs.Ythblnnboeikgcaa.PlanLib
open Go.RowKit Go.Proofs.Ythblnnboeikgcaa.B Go.Proofs.YthblnnboeikgcaaW.PrintWords Go.Proofs.Ythblnnboeikgcaa.ConfLib
def ex (d r t : Int) : Int := if t < 0 ∨ t % d ≠ 0 ∨ r ≤ t / d then -1 else t / d
def hears (n f d p r dr o s m fr : Int) (t : List Int) (age : Int) : Int := if plain n f d p r dr o s m fr t = 0 then (if age < d then -1 else ex d (3 * (f + 1)) (age - d)) else -1
def king (n f d p r dr o s m fr : Int) (t : List Int) (x : Int) : Int := if x < 0 ∨ ConfLib.rounds n f d p r dr o s m fr t ≤ x then -1 else x / 3
theorem ex_cases {d r t : Int} (hd : 1 ≤ d ∧ d ≤ 4) : (ex d r t = -1 ∧ ∀ x, 0 ≤ x → x < r → t ≠ x * d) ∨ ∃ x, 0 ≤ x ∧ x < r ∧ t = x * d ∧ ex d r t = x := by
  have h : d = 1 ∨ d = 2 ∨ d = 3 ∨ d = 4 := by omega
  unfold ex
  rcases h with rfl | rfl | rfl | rfl
  all_goals
    split
    · exact .inl ⟨rfl, fun x h1 h2 h3 => by omega⟩
    · exact .inr ⟨_, by omega, by omega, by omega, rfl⟩
theorem rounds_facts {n f d p r dr o s m fr : Int} {t : List Int} : 0 ≤ ConfLib.rounds n f d p r dr o s m fr t ∧ ConfLib.rounds n f d p r dr o s m fr t ≤ 15 := by
  unfold ConfLib.rounds
  split
  · rename_i h
    have := plain_facts h
    omega
  · omega
theorem king_at (n f d p r dr o s m fr : Int) (t : List Int) (x : Int) {k : Nat} (hk : 10 < k) : plan_King.f k n f d p r dr o s m fr t x = some (king n f d p r dr o s m fr t x) := by
  have hb := rounds_facts (n := n) (f := f) (d := d) (p := p) (r := r) (dr := dr) (o := o) (s := s) (m := m) (fr := fr) (t := t)
  unfold plan_King.f king
  by_cases h0 : x < 0
  · rw [if_pos h0, if_pos (.inl h0)]
  rw [if_neg h0, rounds_at n f d p r dr o s m fr t hk]
  simp only [Option.bind_some]
  by_cases h1 : x ≥ ConfLib.rounds n f d p r dr o s m fr t
  · rw [if_pos h1, if_pos (.inr h1)]
  · rw [if_neg h1, if_neg (by omega), Int.tdiv_eq_ediv_of_nonneg (by omega), ConfLib.wrap_small (by omega) (by omega)]
end Go.Proofs.Ythblnnboeikgcaa.PlanLib
end
section
set_option linter.unusedVariables false
set_option linter.unusedSimpArgs false
set_option linter.unusedSectionVars false
namespace Go.Proofs.Ythblnnboeikgcaa.PipeLib
open Go.RowKit Go.Proofs.Ythblnnboeikgcaa.B Go.Proofs.YthblnnboeikgcaaW.PrintWords Go.Proofs.YthblnnboeikgcaaW.PrintMore Go.Proofs.Ythblnnboeikgcaa.ConfLib Go.Proofs.Ythblnnboeikgcaa.TallyLib Go.Proofs.Ythblnnboeikgcaa.KingLib Go.Proofs.Ythblnnboeikgcaa.VecLib
abbrev E0 : ByteArray := ⟨#[]⟩
def part (x : Nat) (s : ByteArray) : ByteArray := if x < s.size then s.extract x (x + 1) else E0
theorem rdOf_at {VS : List ByteArray} {i : Nat} (h : i < VS.length) : rdOf ByteArray.empty VS (i : Int) = VS[i] := by simp [rdOf, List.getD_eq_getElem?_getD, h]
theorem told_l0 (x : Nat) (hx : x ≤ 1000000) (VS : List ByteArray) (hl : VS.length ≤ 1000000) (q : Nat) : ∀ (i k : Nat), i + q = VS.length → q < k →
    pipe_told.l0 k (x : Int) (KW.part E0 (VS.map (part x)) VS.length i) VS (VS.length : Int) (i : Int) = some (VS.map (part x)) := by
  have hV : (VS.map (part x)).length = VS.length := List.length_map ..
  induction q with
  | zero =>
    intro i k hi hk
    obtain ⟨k, rfl⟩ : ∃ j, k = j + 1 := ⟨k - 1, by omega⟩
    rw [pipe_told.l0.eq_2, if_neg (by omega)]
    obtain rfl : i = VS.length := by omega
    rw [KW.part_all hV]
  | succ q ih =>
    intro i k hi hk
    obtain ⟨k, rfl⟩ : ∃ j, k = j + 1 := ⟨k - 1, by omega⟩
    have hlt : i < VS.length := by omega
    have hg : (VS.map (part x)).getD i E0 = part x VS[i] := by simp [List.getD_eq_getElem?_getD, hlt]
    have hp := KW.part_put (z := E0) (m := VS.length) hV (j := i) hlt hg
    have hn := ih (i + 1) k (by omega) (by omega)
    have hw : wrap64 ((i : Int) + 1) = ((i + 1 : Nat) : Int) := succ_w (by omega)
    have hw2 : wrap64 ((x : Int) + 1) = ((x + 1 : Nat) : Int) := succ_w (by omega)
    rw [pipe_told.l0.eq_2, if_pos (by omega), if_pos (by omega), if_pos (by omega), rdOf_at hlt, hw, hw2]
    by_cases hs : x < VS[i].size
    · rw [if_pos (by omega), if_pos (by omega), if_pos (by omega), if_pos (by omega), if_pos (by rw [KW.part_len hV (by omega)]; omega)]
      have e : part x VS[i] = VS[i].extract ((x : Nat) : Int).toNat ((x + 1 : Nat) : Int).toNat := by
        rw [part, if_pos hs]
        rfl
      rw [← e, Int.toNat_natCast, hp]
      exact hn
    · rw [if_neg (by omega)]
      have e : part x VS[i] = E0 := by rw [part, if_neg hs]
      have hself : (KW.part E0 (VS.map (part x)) VS.length i).set i E0 = KW.part E0 (VS.map (part x)) VS.length i := by
        have hget : (KW.part E0 (VS.map (part x)) VS.length i)[i]? = some E0 := by
          unfold KW.part
          rw [List.getElem?_append_right (by rw [List.length_take]; omega), List.getElem?_replicate]
          rw [if_pos (by rw [List.length_take]; omega)]
        refine List.ext_getElem? (fun j => ?_)
        rw [List.getElem?_set]
        split
        · rename_i h
          subst h
          rw [hget]
          split
          · rfl
          · rename_i h
            exact absurd (by rw [KW.part_len hV (by omega)]; exact hlt) h
        · rfl
      rw [e, hself] at hp
      rw [hp]
      exact hn
theorem told_at (x : Nat) (hx : x ≤ 1000000) (VS : List ByteArray) (hl : VS.length ≤ 1000000) {k : Nat} (hk : VS.length < k) : pipe_told.f k (x : Int) VS = some (VS.map (part x)) := by
  unfold pipe_told.f
  rw [if_pos (by omega), if_pos (by rw [Int.toNat_natCast]; omega), Int.toNat_natCast]
  have := told_l0 x hx VS hl VS.length 0 k (by omega) hk
  rw [KW.part_zero] at this
  exact this
theorem vote_part (x : Nat) (s : ByteArray) : vote (part x s) 0 = vote s (x : Int) := by
  unfold part
  by_cases h : x < s.size
  · rw [if_pos h]
    have h1 : (s.extract x (x + 1)).size = 1 := by rw [ByteArray.size_extract]; omega
    have h2 : bt (s.extract x (x + 1)) 0 = bt s (x : Int) := by
      have e := Bytes.bt_list (s.extract x (x + 1)) 0 (by omega)
      have e2 := Bytes.bt_list s x h
      rw [Bytes.extract_list] at e
      have h9 : x < s.data.toList.length := by rw [data_length]; exact h
      rw [show ((0 : Nat) : Int) = 0 from rfl] at e
      rw [e, e2]
      simp [List.getD_eq_getElem?_getD, List.getElem?_take, List.getElem?_drop, h9]
    unfold vote vec_Step_1.vote
    rw [h2, h1]
    simp only [show ¬ ((0 : Int) ≥ ((1 : Nat) : Int)) by decide, show ¬ ((x : Int) ≥ (s.size : Int)) by omega, false_or]
  · rw [if_neg h]
    unfold vote vec_Step_1.vote
    rw [if_pos (.inl (by decide)), if_pos (.inl (by omega))]
theorem vote_empty (x : Nat) : vote ByteArray.empty (x : Int) = -1 := by
  unfold vote vec_Step_1.vote
  rw [if_pos (.inl (by show (x : Int) ≥ ((0 : Nat) : Int); omega))]
section
variable (n f d p r dr o s m fr : Int) (t : List Int)
def hearV (x : Nat) (c : Int) (VS : List ByteArray) : Int := 48 + newCode n f d p r dr o s m fr t (x : Int) c (vote (VS.getD (x / 3) ByteArray.empty) (x : Int)) (VS.map (fun z => vote z (x : Int)))
theorem hearV_range (x : Nat) (c : Int) (VS : List ByteArray) : 48 ≤ hearV n f d p r dr o s m fr t x c VS ∧ hearV n f d p r dr o s m fr t x c VS ≤ 53 := by
  have := newCode_range n f d p r dr o s m fr t (x : Int) c (vote (VS.getD (x / 3) ByteArray.empty) (x : Int)) (VS.map (fun z => vote z (x : Int)))
  unfold hearV
  omega
theorem one_bt {c : Int} (h0 : 0 ≤ c) (h1 : c ≤ 255) : bt (strOfNums [c]) 0 = c := by
  have h : ((UInt8.ofNat c.toNat).toNat : Int) = c := by rw [UInt8.toNat_ofNat']; omega
  show bt (⟨#[UInt8.ofNat c.toNat]⟩ : ByteArray) 0 = c
  unfold bt
  rw [dif_pos (by show 0 < 1; decide)]
  exact h
theorem hear_at (x : Nat) (hx : (x : Int) < ConfLib.rounds n f d p r dr o s m fr t) (c : Int) (h0 : 0 ≤ c) (h1 : c ≤ 255) (VS : List ByteArray) (hl : VS.length ≤ 1000000) {k : Nat} (hk : 10 + VS.length < k) :
    pipe_hear.f k n f d p r dr o s m fr t (x : Int) c VS = some (hearV n f d p r dr o s m fr t x c VS) := by
  have hr := PlanLib.rounds_facts (n := n) (f := f) (d := d) (p := p) (r := r) (dr := dr) (o := o) (s := s) (m := m) (fr := fr) (t := t)
  have hlen : (VS.map (part x)).length = VS.length := List.length_map ..
  have hking : PlanLib.king n f d p r dr o s m fr t (x : Int) = ((x / 3 : Nat) : Int) := by
    unfold PlanLib.king
    rw [if_neg (by omega)]
    omega
  have hvotes : (VS.map (part x)).map (fun z => vote z 0) = VS.map (fun z => vote z (x : Int)) := by
    rw [List.map_map]
    exact List.map_congr_left (fun z _ => vote_part x z)
  have key : ∀ boss : ByteArray, vote boss 0 = vote (VS.getD (x / 3) ByteArray.empty) (x : Int) →
      ((vec_Step.f k n f d p r dr o s m fr t (x : Int) (strOfNums [c]) boss (VS.map (part x))).bind fun t => if 0 < (t.size : Int) then some (bt t 0) else none) = some (hearV n f d p r dr o s m fr t x c VS) := by
    intro boss hb
    rw [vstep_at n f d p r dr o s m fr t (x : Int) (strOfNums [c]) boss (VS.map (part x)) (by show 1 ≤ 1000000; decide) (by omega) (by omega)]
    simp only [Option.bind_some]
    have hd : stepD n f d p r dr o s m fr t (x : Int) (strOfNums [c]) boss (VS.map (part x)) = [newCode n f d p r dr o s m fr t (x : Int) c (vote (VS.getD (x / 3) ByteArray.empty) (x : Int)) (VS.map (fun z => vote z (x : Int)))] := by
      show List.map _ (List.range 1) = _
      show [newCode n f d p r dr o s m fr t (x : Int) (bt (strOfNums [c]) ((0 : Nat) : Int)) (vote boss ((0 : Nat) : Int)) ((VS.map (part x)).map (fun z => vote z ((0 : Nat) : Int)))] = _
      rw [show ((0 : Nat) : Int) = 0 from rfl, one_bt h0 h1, hb, hvotes]
    have hrg := newCode_range n f d p r dr o s m fr t (x : Int) c (vote (VS.getD (x / 3) ByteArray.empty) (x : Int)) (VS.map (fun z => vote z (x : Int)))
    rw [hd, txt_size, if_pos (by show (0 : Int) < ((1 : Nat) : Int); decide)]
    congr 1
    unfold hearV
    generalize newCode n f d p r dr o s m fr t (x : Int) c (vote (VS.getD (x / 3) ByteArray.empty) (x : Int)) (VS.map (fun z => vote z (x : Int))) = y at hrg
    exact (txt_bt [y] (j := 0) (Nat.zero_lt_one) (by simpa using hrg.1) (by show y ≤ 200; omega))
  unfold pipe_hear.f
  rw [told_at x (by omega) VS hl (by omega), PlanLib.king_at n f d p r dr o s m fr t (x : Int) (by omega), hking]
  simp only [Option.bind_some]
  by_cases hb : x / 3 < VS.length
  · rw [if_pos (by rw [hlen]; omega), if_pos (by omega)]
    refine key _ ?_
    rw [rdOf_at (by rw [hlen]; exact hb), List.getElem_map, vote_part]
    simp [List.getD_eq_getElem?_getD, hb]
  · rw [if_neg (by rw [hlen]; omega)]
    refine key _ ?_
    rw [show VS.getD (x / 3) ByteArray.empty = ByteArray.empty by simp [List.getD_eq_getElem?_getD, hb], vote_empty]
    unfold vote vec_Step_1.vote
    rw [if_pos (.inl (by decide))]
def well (a : ByteArray) : ByteArray := if (a.size : Int) = ConfLib.length n f d p r dr o s m fr t then a else txt (List.replicate (ConfLib.length n f d p r dr o s m fr t).toNat 0)
theorem length_facts : 0 ≤ ConfLib.length n f d p r dr o s m fr t ∧ ConfLib.length n f d p r dr o s m fr t ≤ 60 := by
  unfold ConfLib.length
  split
  · rename_i h
    have hf := plain_facts h
    have := mul_d (f := f) (d := d) (by omega) (by omega)
    omega
  · omega
theorem repeat_one (j : Nat) : Lib.repeatL [(48 : UInt8)] j = List.replicate j (48 : UInt8) := by
  induction j with
  | zero => rfl
  | succ j ih => simp [Lib.repeatL, List.replicate_succ] at ih ⊢; try exact ih
theorem blank_at {k : Nat} (hk : 10 < k) : pipe_Blank.f k n f d p r dr o s m fr t = some (txt (List.replicate (ConfLib.length n f d p r dr o s m fr t).toNat 0)) := by
  have hl := length_facts n f d p r dr o s m fr t
  unfold pipe_Blank.f strings_Repeat.f
  rw [length_at n f d p r dr o s m fr t hk]
  simp only [Option.bind_some]
  rw [if_pos ⟨hl.1, by omega, by decide⟩]
  simp only [Option.bind_some]
  congr 1
  refine Bytes.ext ?_
  rw [txt_list]
  show Lib.repeatL [(48 : UInt8)] _ = _
  rw [repeat_one, List.map_replicate]
  rfl
theorem sound_at (a : ByteArray) {k : Nat} (hk : 10 < k) : pipe_sound.f k n f d p r dr o s m fr t a = some (well n f d p r dr o s m fr t a) := by
  unfold pipe_sound.f well
  rw [length_at n f d p r dr o s m fr t hk]
  simp only [Option.bind_some]
  rw [blank_at n f d p r dr o s m fr t hk]
  split <;> rfl
theorem well_size (a : ByteArray) : ((well n f d p r dr o s m fr t a).size : Int) = ConfLib.length n f d p r dr o s m fr t := by
  have hl := length_facts n f d p r dr o s m fr t
  unfold well
  split
  · assumption
  · rw [txt_size, List.length_replicate]
    omega
end
end Go.Proofs.Ythblnnboeikgcaa.PipeLib
end
