import Derived.Test.YthblnnboeikgcaaYBeatRegular50
set_option linter.unusedVariables false
set_option linter.unusedSimpArgs false
set_option linter.unusedSectionVars false
namespace Go.Proofs.Ythblnnboeikgcaa.BeatLib
open Go.RowKit Go.Proofs.Ythblnnboeikgcaa.B Go.Proofs.YthblnnboeikgcaaW.PrintWords Go.Proofs.YthblnnboeikgcaaW.PrintMore Go.Proofs.Ythblnnboeikgcaa.ConfLib Go.Proofs.Ythblnnboeikgcaa.TallyLib Go.Proofs.Ythblnnboeikgcaa.KingLib Go.Proofs.Ythblnnboeikgcaa.VecLib Go.Proofs.Ythblnnboeikgcaa.PlanLib Go.Proofs.Ythblnnboeikgcaa.PipeLib
def clampV (a : Int) : Int := if a < 0 then 0 else if 2 < a then 2 else a
theorem clamp_at (a : Int) {k : Nat} (hk : 10 < k) : num_Clamp.f k a 0 2 = some (clampV a) := by
  obtain ⟨k, rfl⟩ : ∃ j, k = j + 1 := ⟨k - 1, by omega⟩
  unfold num_Clamp.f clampV
  simp only [num_Clamp.j0]
  by_cases h : a < 0
  · rw [if_pos h, if_pos (decide_eq_true h), if_pos h]
  · rw [if_neg h, if_neg (by decide), if_neg h]
    by_cases h2 : a > 2
    · rw [if_pos h2, if_pos h2]
    · rw [if_neg h2, if_neg h2]
section
variable (n f d p r dr o s m fr : Int) (t : List Int)
def nextV (a reg : Int) (pulse : Bool) : Int × Int :=
  if plain n f d p r dr o s m fr t = 0 then (if pulse = true then (if a = p - 1 then (0, sat reg 2) else (0, 0)) else (if sat a p = p then (sat a p, 0) else (sat a p, clampV reg))) else (0, 0)
def bitB (a : Int) : Int := if plain n f d p r dr o s m fr t = 0 then (if a = p - ConfLib.length n f d p r dr o s m fr t ∨ a ≥ p then 1 else 0) else 0
theorem bitB_range (a : Int) : 0 ≤ bitB n f d p r dr o s m fr t a ∧ bitB n f d p r dr o s m fr t a ≤ 1 := by
  unfold bitB
  split
  · split <;> omega
  · omega
theorem next_at (a reg : Int) (pulse : Bool) {k : Nat} (hk : 10 < k) : beat_Next.f k n f d p r dr o s m fr t a reg pulse = some (nextV n f d p r dr o s m fr t a reg pulse) := by
  unfold beat_Next.f nextV
  rw [plain_at n f d p r dr o s m fr t hk]
  simp only [Option.bind_some]
  by_cases hp : plain n f d p r dr o s m fr t = 0
  · have hf := plain_facts hp
    have hm := mul_d (f := f) (d := d) (by omega) (by omega)
    rw [if_pos hp, if_pos hp, sat_at reg 2 (by omega) (by omega), sat_at a p (by omega) (by omega), clamp_at reg hk, ConfLib.wrap_small (n := p - 1) (by omega) (by omega)]
    simp only [Option.bind_some]
    cases pulse with
    | true =>
      rw [if_pos rfl, if_pos rfl]
      split <;> rfl
    | false =>
      rw [if_neg Bool.false_ne_true, if_neg Bool.false_ne_true]
      split <;> rfl
  · rw [if_neg hp, if_neg hp]
theorem bit_at (a : Int) {k : Nat} (hk : 10 < k) : beat_Bit.f k n f d p r dr o s m fr t a = some (bitB n f d p r dr o s m fr t a) := by
  have hl := length_facts n f d p r dr o s m fr t
  unfold beat_Bit.f bitB
  rw [plain_at n f d p r dr o s m fr t hk]
  simp only [Option.bind_some]
  by_cases hp : plain n f d p r dr o s m fr t = 0
  · have hf := plain_facts hp
    have hm := mul_d (f := f) (d := d) (by omega) (by omega)
    rw [if_pos hp, if_pos hp, length_at n f d p r dr o s m fr t hk]
    simp only [Option.bind_some]
    rw [ConfLib.wrap_small (n := p - ConfLib.length n f d p r dr o s m fr t) (by omega) (by omega)]
    by_cases h1 : a = p - ConfLib.length n f d p r dr o s m fr t
    · rw [if_pos h1, if_pos (.inl h1)]
    · by_cases h2 : a ≥ p
      · rw [if_neg h1, if_pos h2, if_pos (.inr h2)]
      · rw [if_neg h1, if_neg h2, if_neg (by omega)]
  · rw [if_neg hp, if_neg hp]
def pend (s2 : ByteArray) (j : Nat) : Int := if j < s2.size ∧ bt s2 (j : Int) = 49 then 1 else 0
def endOf (s2 : ByteArray) (i : Nat) (bits : List Int) : Int := if i < (ConfLib.length n f d p r dr o s m fr t).toNat then pend s2 i else bits.getD (i - (ConfLib.length n f d p r dr o s m fr t).toNat) 0
def stA (a : Int) (s2 : ByteArray) : Nat → Int × List Int
  | 0 => (a, [])
  | i + 1 => ((nextV n f d p r dr o s m fr t (stA a s2 i).1 0 (endOf n f d p r dr o s m fr t s2 i (stA a s2 i).2 == 1)).1, (stA a s2 i).2 ++ [bitB n f d p r dr o s m fr t (nextV n f d p r dr o s m fr t (stA a s2 i).1 0 (endOf n f d p r dr o s m fr t s2 i (stA a s2 i).2 == 1)).1])
def sA (a : Int) (s2 : ByteArray) (i : Nat) : Int := (stA n f d p r dr o s m fr t a s2 i).1
def eA (a : Int) (s2 : ByteArray) (i : Nat) : Int := endOf n f d p r dr o s m fr t s2 i (stA n f d p r dr o s m fr t a s2 i).2
theorem sA_succ (a : Int) (s2 : ByteArray) (i : Nat) : sA n f d p r dr o s m fr t a s2 (i + 1) = (nextV n f d p r dr o s m fr t (sA n f d p r dr o s m fr t a s2 i) 0 (eA n f d p r dr o s m fr t a s2 i == 1)).1 := rfl
theorem bits_A (a : Int) (s2 : ByteArray) (i : Nat) : (stA n f d p r dr o s m fr t a s2 i).2 = (List.range i).map (fun (j : Nat) => bitB n f d p r dr o s m fr t (sA n f d p r dr o s m fr t a s2 (j + 1))) := by
  induction i with
  | zero => rfl
  | succ i ih =>
    rw [List.range_succ, List.map_append, ← ih]
    rfl
theorem eA_low (a : Int) (s2 : ByteArray) {i : Nat} (hi : i < (ConfLib.length n f d p r dr o s m fr t).toNat) : eA n f d p r dr o s m fr t a s2 i = pend s2 i := by unfold eA endOf; rw [if_pos hi]
theorem eA_high (a : Int) (s2 : ByteArray) (j : Nat) (hl : 0 < (ConfLib.length n f d p r dr o s m fr t).toNat) : eA n f d p r dr o s m fr t a s2 ((ConfLib.length n f d p r dr o s m fr t).toNat + j) = bitB n f d p r dr o s m fr t (sA n f d p r dr o s m fr t a s2 (j + 1)) := by
  unfold eA endOf
  rw [if_neg (by omega), bits_A, Nat.add_sub_cancel_left]
  exact KW.getD_range (fun j => bitB n f d p r dr o s m fr t (sA n f d p r dr o s m fr t a s2 (j + 1))) 0 (by omega)
theorem eA_range (a : Int) (s2 : ByteArray) (i : Nat) : 0 ≤ eA n f d p r dr o s m fr t a s2 i ∧ eA n f d p r dr o s m fr t a s2 i ≤ 1 := by
  unfold eA endOf
  split
  · unfold pend
    split <;> omega
  · rw [bits_A, List.getD_eq_getElem?_getD, List.getElem?_map]
    cases (List.range i)[i - (ConfLib.length n f d p r dr o s m fr t).toNat]? with
    | none => show 0 ≤ (0 : Int) ∧ (0 : Int) ≤ 1; omega
    | some j => exact bitB_range n f d p r dr o s m fr t _
def aloneV (a : Int) (s2 : ByteArray) (ticks : Int) : ByteArray := if plain n f d p r dr o s m fr t = 0 then txt ((List.range (min ticks 2000).toNat).map (fun (i : Nat) => eA n f d p r dr o s m fr t a s2 i)) else E0
theorem go_at (hp : plain n f d p r dr o s m fr t = 0) (a : Int) (s2 : ByteArray) {k : Nat} (hk : 10 < k) (q : Nat) : ∀ i : Nat,
    beat_Alone.go k n f d p r dr o s m fr t q (sA n f d p r dr o s m fr t a s2 i) ((List.range (ConfLib.length n f d p r dr o s m fr t).toNat).map (fun (j : Nat) => eA n f d p r dr o s m fr t a s2 (i + j))) ((List.range i).map (fun (j : Nat) => 48 + eA n f d p r dr o s m fr t a s2 j)) =
      some ((List.range (i + q)).map (fun (j : Nat) => 48 + eA n f d p r dr o s m fr t a s2 j)) := by
  have h3 := len_pos n f d p r dr o s m fr t hp
  induction q with
  | zero => intro i; rfl
  | succ q ih =>
    intro i
    obtain ⟨N, hN⟩ : ∃ N, (ConfLib.length n f d p r dr o s m fr t).toNat = N + 1 := ⟨(ConfLib.length n f d p r dr o s m fr t).toNat - 1, by omega⟩
    have go := ih (i + 1)
    have hr := eA_range n f d p r dr o s m fr t a s2 i
    have hh := eA_high n f d p r dr o s m fr t a s2 i (by omega)
    have e1 : (List.range (N + 1)).map (fun (j : Nat) => eA n f d p r dr o s m fr t a s2 (i + j)) = eA n f d p r dr o s m fr t a s2 i :: (List.range N).map (fun (j : Nat) => eA n f d p r dr o s m fr t a s2 (i + 1 + j)) := by
      rw [List.range_succ_eq_map, List.map_cons, List.map_map]
      congr 1
      refine List.map_congr_left (fun j _ => ?_)
      show eA n f d p r dr o s m fr t a s2 (i + (j + 1)) = _
      rw [show i + (j + 1) = i + 1 + j by omega]
    have e2 : (List.range (N + 1)).map (fun (j : Nat) => eA n f d p r dr o s m fr t a s2 (i + 1 + j)) = (List.range N).map (fun (j : Nat) => eA n f d p r dr o s m fr t a s2 (i + 1 + j)) ++ [bitB n f d p r dr o s m fr t (sA n f d p r dr o s m fr t a s2 (i + 1))] := by
      rw [List.range_succ, List.map_append, ← hh, hN]
      show _ ++ [eA n f d p r dr o s m fr t a s2 (i + 1 + N)] = _
      rw [show i + 1 + N = N + 1 + i by omega]
    rw [hN] at go ⊢
    rw [e1]
    unfold beat_Alone.go
    rw [if_pos hr, next_at n f d p r dr o s m fr t _ _ _ hk]
    simp only [Option.bind_some]
    rw [bit_at n f d p r dr o s m fr t _ hk]
    simp only [Option.bind_some]
    rw [e2, List.range_succ, List.map_append, sA_succ] at go
    rw [show i + (q + 1) = i + 1 + q by omega]
    exact go
theorem alone_ev (a : Int) (s2 : ByteArray) (ticks : Int) : Ev (fun k => beat_Alone.f k n f d p r dr o s m fr t a s2 ticks) (aloneV n f d p r dr o s m fr t a s2 ticks) := by
  refine Ev.from 10 (fun k hk => ?_)
  have hl := length_facts n f d p r dr o s m fr t
  unfold beat_Alone.f aloneV
  rw [plain_at n f d p r dr o s m fr t hk]
  simp only [Option.bind_some]
  by_cases hp : plain n f d p r dr o s m fr t = 0
  · rw [if_pos hp, if_pos hp, length_at n f d p r dr o s m fr t hk]
    simp only [Option.bind_some]
    have hc : num_Clamp.f k ticks 0 2000 = some (((min ticks 2000).toNat : Nat) : Int) := by
      obtain ⟨k, rfl⟩ : ∃ j, k = j + 1 := ⟨k - 1, by omega⟩
      unfold num_Clamp.f
      simp only [num_Clamp.j0]
      by_cases h : ticks < 0
      · rw [if_pos h, if_pos (decide_eq_true h)]
        congr 1
        omega
      · rw [if_neg h, if_neg (by decide)]
        by_cases h2 : ticks > 2000
        · rw [if_pos h2]
          congr 1
          omega
        · rw [if_neg h2]
          congr 1
          omega
    rw [hc]
    simp only [Option.bind_some]
    have hb : beat_Alone.bits s2 (ConfLib.length n f d p r dr o s m fr t).toNat = (List.range (ConfLib.length n f d p r dr o s m fr t).toNat).map (fun (j : Nat) => eA n f d p r dr o s m fr t a s2 (0 + j)) := by
      unfold beat_Alone.bits
      refine List.map_congr_left (fun j hj => ?_)
      rw [Nat.zero_add, eA_low n f d p r dr o s m fr t a s2 (List.mem_range.1 hj)]
      rfl
    have go : beat_Alone.go k n f d p r dr o s m fr t (min ticks 2000).toNat a ((List.range (ConfLib.length n f d p r dr o s m fr t).toNat).map (fun (j : Nat) => eA n f d p r dr o s m fr t a s2 (0 + j))) [] = _ := go_at n f d p r dr o s m fr t hp a s2 hk (min ticks 2000).toNat 0
    rw [if_pos ⟨hl.1, by omega, by omega, by omega⟩, hb, Int.toNat_natCast, go]
    simp only [Option.map_some, Option.bind_some]
    rw [Nat.zero_add]
    congr 1
    unfold txt
    rw [List.map_map]
    rfl
  · rw [if_neg hp, if_neg hp]
theorem st_len (a : Int) (s2 : ByteArray) (i : Nat) : (stA n f d p r dr o s m fr t a s2 i).2.length = i := by rw [bits_A, List.length_map, List.length_range]
end
end Go.Proofs.Ythblnnboeikgcaa.BeatLib
