import Derived.Test.YthblnnboeikgcaaYBeatSteps53
section
set_option linter.unusedVariables false
set_option linter.unusedSimpArgs false
set_option linter.unusedSectionVars false
namespace Go.Proofs.Ythblnnboeikgcaa.BeatLib
open Go.RowKit Go.Proofs.Ythblnnboeikgcaa.B Go.Proofs.YthblnnboeikgcaaW.PrintWords Go.Proofs.YthblnnboeikgcaaW.PrintMore Go.Proofs.Ythblnnboeikgcaa.ConfLib Go.Proofs.Ythblnnboeikgcaa.TallyLib Go.Proofs.Ythblnnboeikgcaa.KingLib Go.Proofs.Ythblnnboeikgcaa.VecLib Go.Proofs.Ythblnnboeikgcaa.PlanLib Go.Proofs.Ythblnnboeikgcaa.PipeLib
def clampV (a : Int) : Int := if a < 0 then 0 else if 2 < a then 2 else a
theorem clamp_at (a : Int) {k : Nat} (hk : 10 < k) : num_Clamp.f k a 0 2 = some (clampV a) := by
  obtain ⟨k, rfl⟩ : ∃ j, k = j + 1 := ⟨k - 1, by omega⟩
  unfold num_Clamp.f clampV
  simp only [num_Clamp.j0]
  by_cases h : a < 0
  · rw [if_pos h, if_pos (decide_eq_true h), if_pos h]
  · rw [if_neg h, if_neg (by decide), if_neg h]
    by_cases h2 : a > 2
    · rw [if_pos h2, if_pos h2]
    · rw [if_neg h2, if_neg h2]
theorem ref_clamp_at (a : Int) : r01Clamp.f a 0 2 = some (clampV a) := by
  unfold r01Clamp.f clampV mn
  by_cases h : a < 0
  · rw [if_pos h, if_pos h]
  · rw [if_neg h, if_neg h, if_neg (by decide)]
section
variable (n f d p r dr o s m fr : Int) (t : List Int)
def nextV (a reg : Int) (pulse : Bool) : Int × Int :=
  if plain n f d p r dr o s m fr t = 0 then (if pulse = true then (if a = p - 1 then (0, sat reg 2) else (0, 0)) else (if sat a p = p then (sat a p, 0) else (sat a p, clampV reg))) else (0, 0)
def bitB (a : Int) : Int := if plain n f d p r dr o s m fr t = 0 then (if a = p - ConfLib.length n f d p r dr o s m fr t ∨ a ≥ p then 1 else 0) else 0
theorem bitB_range (a : Int) : 0 ≤ bitB n f d p r dr o s m fr t a ∧ bitB n f d p r dr o s m fr t a ≤ 1 := by
  unfold bitB
  split
  · split <;> omega
  · omega
theorem next_at (a reg : Int) (pulse : Bool) {k : Nat} (hk : 10 < k) : beat_Next.f k n f d p r dr o s m fr t a reg pulse = some (nextV n f d p r dr o s m fr t a reg pulse) := by
  unfold beat_Next.f nextV
  rw [plain_at n f d p r dr o s m fr t hk]
  simp only [Option.bind_some]
  by_cases hp : plain n f d p r dr o s m fr t = 0
  · have hf := plain_facts hp
    have hm := mul_d (f := f) (d := d) (by omega) (by omega)
    rw [if_pos hp, if_pos hp, sat_at reg 2 (by omega) (by omega), sat_at a p (by omega) (by omega), clamp_at reg hk, ConfLib.wrap_small (n := p - 1) (by omega) (by omega)]
    simp only [Option.bind_some]
    cases pulse with
    | true =>
      rw [if_pos rfl, if_pos rfl]
      split <;> rfl
    | false =>
      rw [if_neg Bool.false_ne_true, if_neg Bool.false_ne_true]
      split <;> rfl
  · rw [if_neg hp, if_neg hp]
theorem ref_next_at (a reg : Int) (pulse : Bool) {k : Nat} (hk : 1000 < k) : r18Next.f k n f d p r dr o s m fr t a reg pulse = some (nextV n f d p r dr o s m fr t a reg pulse) := by
  unfold r18Next.f nextV
  rw [ref_plain_at n f d p r dr o s m fr t (by omega)]
  simp only [Option.bind_some]
  by_cases hp : plain n f d p r dr o s m fr t = 0
  · have hf := plain_facts hp
    have hm := mul_d (f := f) (d := d) (by omega) (by omega)
    rw [if_pos hp, if_pos hp, ref_sat_at reg 2 (by omega) (by omega), ref_sat_at a p (by omega) (by omega), ref_clamp_at reg, ConfLib.wrap_small (n := p - 1) (by omega) (by omega)]
    simp only [Option.bind_some]
    cases pulse with
    | true =>
      rw [if_pos rfl, if_pos rfl]
      split <;> rfl
    | false =>
      rw [if_neg Bool.false_ne_true, if_neg Bool.false_ne_true]
      split <;> rfl
  · rw [if_neg hp, if_neg hp]
theorem bit_at (a : Int) {k : Nat} (hk : 10 < k) : beat_Bit.f k n f d p r dr o s m fr t a = some (bitB n f d p r dr o s m fr t a) := by
  have hl := length_facts n f d p r dr o s m fr t
  unfold beat_Bit.f bitB
  rw [plain_at n f d p r dr o s m fr t hk]
  simp only [Option.bind_some]
  by_cases hp : plain n f d p r dr o s m fr t = 0
  · have hf := plain_facts hp
    have hm := mul_d (f := f) (d := d) (by omega) (by omega)
    rw [if_pos hp, if_pos hp, length_at n f d p r dr o s m fr t hk]
    simp only [Option.bind_some]
    rw [ConfLib.wrap_small (n := p - ConfLib.length n f d p r dr o s m fr t) (by omega) (by omega)]
    by_cases h1 : a = p - ConfLib.length n f d p r dr o s m fr t
    · rw [if_pos h1, if_pos (.inl h1)]
    · by_cases h2 : a ≥ p
      · rw [if_neg h1, if_pos h2, if_pos (.inr h2)]
      · rw [if_neg h1, if_neg h2, if_neg (by omega)]
  · rw [if_neg hp, if_neg hp]
theorem ref_bit_at (a : Int) {k : Nat} (hk : 1000 < k) : r18Bit.f k n f d p r dr o s m fr t a = some (bitB n f d p r dr o s m fr t a) := by
  have hl := length_facts n f d p r dr o s m fr t
  unfold r18Bit.f bitB
  rw [ref_plain_at n f d p r dr o s m fr t (by omega)]
  simp only [Option.bind_some]
  by_cases hp : plain n f d p r dr o s m fr t = 0
  · have hf := plain_facts hp
    have hm := mul_d (f := f) (d := d) (by omega) (by omega)
    rw [if_pos hp, if_pos hp, ref_length_at n f d p r dr o s m fr t (by omega)]
    simp only [Option.bind_some]
    rw [ConfLib.wrap_small (n := p - ConfLib.length n f d p r dr o s m fr t) (by omega) (by omega)]
    by_cases h1 : a = p - ConfLib.length n f d p r dr o s m fr t
    · rw [if_pos h1, if_pos (.inl h1)]
    · by_cases h2 : a ≥ p
      · rw [if_neg h1, if_pos h2, if_pos (.inr h2)]
      · rw [if_neg h1, if_neg h2, if_neg (by omega)]
  · rw [if_neg hp, if_neg hp]
def stepV (a : ByteArray) (since reg : Int) (VS : List ByteArray) : ByteArray × Int × Int × Bool :=
  (beginV n f d p r dr o s m fr t (moveV n f d p r dr o s m fr t VS a).1 (bitB n f d p r dr o s m fr t (nextV n f d p r dr o s m fr t since reg ((moveV n f d p r dr o s m fr t VS a).2 == 1)).1), (nextV n f d p r dr o s m fr t since reg ((moveV n f d p r dr o s m fr t VS a).2 == 1)).1, (nextV n f d p r dr o s m fr t since reg ((moveV n f d p r dr o s m fr t VS a).2 == 1)).2, (moveV n f d p r dr o s m fr t VS a).2 == 1)
theorem step_ev (a : ByteArray) (since reg : Int) (VS : List ByteArray) (hl : VS.length ≤ 1000000) : Ev (fun k => beat_Step.f k n f d p r dr o s m fr t a since reg VS) (stepV n f d p r dr o s m fr t a since reg VS) := by
  refine Ev.congr (fun k => beat_Step.f.eq_1 ..) ?_
  refine Ev.bind (move_ev n f d p r dr o s m fr t VS hl a) ?_
  refine Ev.bind (Ev.from 10 (fun k hk => next_at n f d p r dr o s m fr t _ _ _ hk)) ?_
  refine Ev.bind (Ev.from 10 (fun k hk => bit_at n f d p r dr o s m fr t _ hk)) ?_
  exact Ev.bind (Ev.from 10 (fun k hk => begin_at n f d p r dr o s m fr t _ _ hk)) (Ev.val rfl)
theorem ref_step_ev (a : ByteArray) (since reg : Int) (VS : List ByteArray) (hl : VS.length ≤ 1000) : Ev (fun k => r18Step.f k n f d p r dr o s m fr t a since reg VS) (stepV n f d p r dr o s m fr t a since reg VS) := by
  refine Ev.congr (fun k => r18Step.f.eq_1 ..) ?_
  refine Ev.bind (ref_move_ev n f d p r dr o s m fr t VS hl a) ?_
  refine Ev.bind (Ev.from 1000 (fun k hk => ref_next_at n f d p r dr o s m fr t _ _ _ hk)) ?_
  refine Ev.bind (Ev.from 1000 (fun k hk => ref_bit_at n f d p r dr o s m fr t _ hk)) ?_
  exact Ev.bind (ref_begin_ev n f d p r dr o s m fr t _ _) (Ev.val rfl)
def pend (s2 : ByteArray) (j : Nat) : Int := if j < s2.size ∧ bt s2 (j : Int) = 49 then 1 else 0
def endOf (s2 : ByteArray) (i : Nat) (bits : List Int) : Int := if i < (ConfLib.length n f d p r dr o s m fr t).toNat then pend s2 i else bits.getD (i - (ConfLib.length n f d p r dr o s m fr t).toNat) 0
def stA (a : Int) (s2 : ByteArray) : Nat → Int × List Int
  | 0 => (a, [])
  | i + 1 => ((nextV n f d p r dr o s m fr t (stA a s2 i).1 0 (endOf n f d p r dr o s m fr t s2 i (stA a s2 i).2 == 1)).1, (stA a s2 i).2 ++ [bitB n f d p r dr o s m fr t (nextV n f d p r dr o s m fr t (stA a s2 i).1 0 (endOf n f d p r dr o s m fr t s2 i (stA a s2 i).2 == 1)).1])
def sA (a : Int) (s2 : ByteArray) (i : Nat) : Int := (stA n f d p r dr o s m fr t a s2 i).1
def eA (a : Int) (s2 : ByteArray) (i : Nat) : Int := endOf n f d p r dr o s m fr t s2 i (stA n f d p r dr o s m fr t a s2 i).2
theorem sA_succ (a : Int) (s2 : ByteArray) (i : Nat) : sA n f d p r dr o s m fr t a s2 (i + 1) = (nextV n f d p r dr o s m fr t (sA n f d p r dr o s m fr t a s2 i) 0 (eA n f d p r dr o s m fr t a s2 i == 1)).1 := rfl
theorem bits_A (a : Int) (s2 : ByteArray) (i : Nat) : (stA n f d p r dr o s m fr t a s2 i).2 = (List.range i).map (fun (j : Nat) => bitB n f d p r dr o s m fr t (sA n f d p r dr o s m fr t a s2 (j + 1))) := by
  induction i with
  | zero => rfl
  | succ i ih =>
    rw [List.range_succ, List.map_append, ← ih]
    rfl
theorem eA_high (a : Int) (s2 : ByteArray) (j : Nat) (hl : 0 < (ConfLib.length n f d p r dr o s m fr t).toNat) : eA n f d p r dr o s m fr t a s2 ((ConfLib.length n f d p r dr o s m fr t).toNat + j) = bitB n f d p r dr o s m fr t (sA n f d p r dr o s m fr t a s2 (j + 1)) := by
  unfold eA endOf
  rw [if_neg (by omega), bits_A, Nat.add_sub_cancel_left]
  exact KW.getD_range (fun j => bitB n f d p r dr o s m fr t (sA n f d p r dr o s m fr t a s2 (j + 1))) 0 (by omega)
theorem eA_range (a : Int) (s2 : ByteArray) (i : Nat) : 0 ≤ eA n f d p r dr o s m fr t a s2 i ∧ eA n f d p r dr o s m fr t a s2 i ≤ 1 := by
  unfold eA endOf
  split
  · unfold pend
    split <;> omega
  · rw [bits_A, List.getD_eq_getElem?_getD, List.getElem?_map]
    cases (List.range i)[i - (ConfLib.length n f d p r dr o s m fr t).toNat]? with
    | none => show 0 ≤ (0 : Int) ∧ (0 : Int) ≤ 1; omega
    | some j => exact bitB_range n f d p r dr o s m fr t _
theorem go_at (hp : plain n f d p r dr o s m fr t = 0) (a : Int) (s2 : ByteArray) {k : Nat} (hk : 10 < k) (q : Nat) : ∀ i : Nat,
    beat_Alone.go k n f d p r dr o s m fr t q (sA n f d p r dr o s m fr t a s2 i) ((List.range (ConfLib.length n f d p r dr o s m fr t).toNat).map (fun (j : Nat) => eA n f d p r dr o s m fr t a s2 (i + j))) ((List.range i).map (fun (j : Nat) => 48 + eA n f d p r dr o s m fr t a s2 j)) =
      some ((List.range (i + q)).map (fun (j : Nat) => 48 + eA n f d p r dr o s m fr t a s2 j)) := by
  have h3 := len_pos n f d p r dr o s m fr t hp
  induction q with
  | zero => intro i; rfl
  | succ q ih =>
    intro i
    obtain ⟨N, hN⟩ : ∃ N, (ConfLib.length n f d p r dr o s m fr t).toNat = N + 1 := ⟨(ConfLib.length n f d p r dr o s m fr t).toNat - 1, by omega⟩
    have go := ih (i + 1)
    have hr := eA_range n f d p r dr o s m fr t a s2 i
    have hh := eA_high n f d p r dr o s m fr t a s2 i (by omega)
    have e1 : (List.range (N + 1)).map (fun (j : Nat) => eA n f d p r dr o s m fr t a s2 (i + j)) = eA n f d p r dr o s m fr t a s2 i :: (List.range N).map (fun (j : Nat) => eA n f d p r dr o s m fr t a s2 (i + 1 + j)) := by
      rw [List.range_succ_eq_map, List.map_cons, List.map_map]
      congr 1
      refine List.map_congr_left (fun j _ => ?_)
      show eA n f d p r dr o s m fr t a s2 (i + (j + 1)) = _
      rw [show i + (j + 1) = i + 1 + j by omega]
    have e2 : (List.range (N + 1)).map (fun (j : Nat) => eA n f d p r dr o s m fr t a s2 (i + 1 + j)) = (List.range N).map (fun (j : Nat) => eA n f d p r dr o s m fr t a s2 (i + 1 + j)) ++ [bitB n f d p r dr o s m fr t (sA n f d p r dr o s m fr t a s2 (i + 1))] := by
      rw [List.range_succ, List.map_append, ← hh, hN]
      show _ ++ [eA n f d p r dr o s m fr t a s2 (i + 1 + N)] = _
      rw [show i + 1 + N = N + 1 + i by omega]
    rw [hN] at go ⊢
    rw [e1]
    unfold beat_Alone.go
    rw [if_pos hr, next_at n f d p r dr o s m fr t _ _ _ hk]
    simp only [Option.bind_some]
    rw [bit_at n f d p r dr o s m fr t _ hk]
    simp only [Option.bind_some]
    rw [e2, List.range_succ, List.map_append, sA_succ] at go
    rw [show i + (q + 1) = i + 1 + q by omega]
    exact go
theorem st_len (a : Int) (s2 : ByteArray) (i : Nat) : (stA n f d p r dr o s m fr t a s2 i).2.length = i := by rw [bits_A, List.length_map, List.length_range]
end
end Go.Proofs.Ythblnnboeikgcaa.BeatLib
end
section
set_option linter.unusedVariables false
set_option linter.unusedSimpArgs false
namespace Go.Proofs.Ythblnnboeikgcaa.beatSteps
open Go.RowKit Go.Proofs.Ythblnnboeikgcaa.B Go.Proofs.YthblnnboeikgcaaW.PrintWords Go.Proofs.Ythblnnboeikgcaa.ConfLib Go.Proofs.Ythblnnboeikgcaa.KingLib Go.Proofs.Ythblnnboeikgcaa.VecLib Go.Proofs.Ythblnnboeikgcaa.PipeLib Go.Proofs.Ythblnnboeikgcaa.BeatLib
theorem known : Ev (fun k => l18known.f k) true := Ev.of l18known.mono (show l18known.f 1000 = some true by decide +kernel)
theorem last : Ev (fun k => (l18known.f k).bind fun t => some t) true := Ev.bind known (Ev.val rfl)
theorem pure : Pure := by
  rintro ⟨n, f, d, p, r, dr, o, s, m, fr, t⟩ a g V _ _ _ _
  refine Ev.rounds (r := true) ?_
  show Ev (fun k => l18BeatSteps.f k n f d p r dr o s m fr t a g V) true
  have out : Ev (fun k => l18BeatSteps.j0 k a g V true n f d p r dr o s m fr t) true := Ev.step (fun k => l18BeatSteps.j0.eq_2 ..) (Ev.pos rfl last)
  refine Ev.congr (fun k => l18BeatSteps.f.eq_1 ..) ?_
  by_cases h1 : (a.size : Int) > 100
  · exact Ev.pos h1 out
  refine Ev.neg h1 ?_
  by_cases h2 : (V.length : Int) > 20
  · rw [decide_eq_true h2]
    exact out
  rw [decide_eq_false h2]
  refine Ev.step (fun k => l18BeatSteps.j0.eq_2 ..) (Ev.neg Bool.false_ne_true ?_)
  refine Ev.bind (step_ev n f d p r dr o s m fr t a g _ V (by omega)) (Ev.bind (ref_step_ev n f d p r dr o s m fr t a g _ V (by omega)) ?_)
  exact Ev.pos rfl (Ev.pos rfl (Ev.pos rfl (Ev.pos (beq_self_eq_true _) last)))
end Go.Proofs.Ythblnnboeikgcaa.beatSteps
end
