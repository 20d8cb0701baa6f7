import Derived.Test.YthblnnboeikgcaaYBeatSettles48
import Derived.WalkKit
section
set_option linter.unusedVariables false
set_option linter.unusedSimpArgs false
set_option linter.unusedSectionVars false
namespace Go.Proofs.Ythblnnboeikgcaa.BeatLib
open Go.RowKit Go.Proofs.Ythblnnboeikgcaa.B Go.Proofs.YthblnnboeikgcaaW.PrintWords Go.Proofs.YthblnnboeikgcaaW.PrintMore Go.Proofs.Ythblnnboeikgcaa.ConfLib Go.Proofs.Ythblnnboeikgcaa.TallyLib Go.Proofs.Ythblnnboeikgcaa.KingLib Go.Proofs.Ythblnnboeikgcaa.VecLib Go.Proofs.Ythblnnboeikgcaa.PlanLib Go.Proofs.Ythblnnboeikgcaa.PipeLib
def clampV (a : Int) : Int := if a < 0 then 0 else if 2 < a then 2 else a
theorem clamp_at (a : Int) {k : Nat} (hk : 10 < k) : num_Clamp.f k a 0 2 = some (clampV a) := by
  obtain ⟨k, rfl⟩ : ∃ j, k = j + 1 := ⟨k - 1, by omega⟩
  unfold num_Clamp.f clampV
  simp only [num_Clamp.j0]
  by_cases h : a < 0
  · rw [if_pos h, if_pos (decide_eq_true h), if_pos h]
  · rw [if_neg h, if_neg (by decide), if_neg h]
    by_cases h2 : a > 2
    · rw [if_pos h2, if_pos h2]
    · rw [if_neg h2, if_neg h2]
section
variable (n f d p r dr o s m fr : Int) (t : List Int)
def nextV (a reg : Int) (pulse : Bool) : Int × Int :=
  if plain n f d p r dr o s m fr t = 0 then (if pulse = true then (if a = p - 1 then (0, sat reg 2) else (0, 0)) else (if sat a p = p then (sat a p, 0) else (sat a p, clampV reg))) else (0, 0)
def bitB (a : Int) : Int := if plain n f d p r dr o s m fr t = 0 then (if a = p - ConfLib.length n f d p r dr o s m fr t ∨ a ≥ p then 1 else 0) else 0
theorem bitB_range (a : Int) : 0 ≤ bitB n f d p r dr o s m fr t a ∧ bitB n f d p r dr o s m fr t a ≤ 1 := by
  unfold bitB
  split
  · split <;> omega
  · omega
theorem next_at (a reg : Int) (pulse : Bool) {k : Nat} (hk : 10 < k) : beat_Next.f k n f d p r dr o s m fr t a reg pulse = some (nextV n f d p r dr o s m fr t a reg pulse) := by
  unfold beat_Next.f nextV
  rw [plain_at n f d p r dr o s m fr t hk]
  simp only [Option.bind_some]
  by_cases hp : plain n f d p r dr o s m fr t = 0
  · have hf := plain_facts hp
    have hm := mul_d (f := f) (d := d) (by omega) (by omega)
    rw [if_pos hp, if_pos hp, sat_at reg 2 (by omega) (by omega), sat_at a p (by omega) (by omega), clamp_at reg hk, ConfLib.wrap_small (n := p - 1) (by omega) (by omega)]
    simp only [Option.bind_some]
    cases pulse with
    | true =>
      rw [if_pos rfl, if_pos rfl]
      split <;> rfl
    | false =>
      rw [if_neg Bool.false_ne_true, if_neg Bool.false_ne_true]
      split <;> rfl
  · rw [if_neg hp, if_neg hp]
theorem bit_at (a : Int) {k : Nat} (hk : 10 < k) : beat_Bit.f k n f d p r dr o s m fr t a = some (bitB n f d p r dr o s m fr t a) := by
  have hl := length_facts n f d p r dr o s m fr t
  unfold beat_Bit.f bitB
  rw [plain_at n f d p r dr o s m fr t hk]
  simp only [Option.bind_some]
  by_cases hp : plain n f d p r dr o s m fr t = 0
  · have hf := plain_facts hp
    have hm := mul_d (f := f) (d := d) (by omega) (by omega)
    rw [if_pos hp, if_pos hp, length_at n f d p r dr o s m fr t hk]
    simp only [Option.bind_some]
    rw [ConfLib.wrap_small (n := p - ConfLib.length n f d p r dr o s m fr t) (by omega) (by omega)]
    by_cases h1 : a = p - ConfLib.length n f d p r dr o s m fr t
    · rw [if_pos h1, if_pos (.inl h1)]
    · by_cases h2 : a ≥ p
      · rw [if_neg h1, if_pos h2, if_pos (.inr h2)]
      · rw [if_neg h1, if_neg h2, if_neg (by omega)]
  · rw [if_neg hp, if_neg hp]
def stepV (a : ByteArray) (since reg : Int) (VS : List ByteArray) : ByteArray × Int × Int × Bool :=
  (beginV n f d p r dr o s m fr t (moveV n f d p r dr o s m fr t VS a).1 (bitB n f d p r dr o s m fr t (nextV n f d p r dr o s m fr t since reg ((moveV n f d p r dr o s m fr t VS a).2 == 1)).1), (nextV n f d p r dr o s m fr t since reg ((moveV n f d p r dr o s m fr t VS a).2 == 1)).1, (nextV n f d p r dr o s m fr t since reg ((moveV n f d p r dr o s m fr t VS a).2 == 1)).2, (moveV n f d p r dr o s m fr t VS a).2 == 1)
theorem step_ev (a : ByteArray) (since reg : Int) (VS : List ByteArray) (hl : VS.length ≤ 1000000) : Ev (fun k => beat_Step.f k n f d p r dr o s m fr t a since reg VS) (stepV n f d p r dr o s m fr t a since reg VS) := by
  refine Ev.congr (fun k => beat_Step.f.eq_1 ..) ?_
  refine Ev.bind (move_ev n f d p r dr o s m fr t VS hl a) ?_
  refine Ev.bind (Ev.from 10 (fun k hk => next_at n f d p r dr o s m fr t _ _ _ hk)) ?_
  refine Ev.bind (Ev.from 10 (fun k hk => bit_at n f d p r dr o s m fr t _ hk)) ?_
  exact Ev.bind (Ev.from 10 (fun k hk => begin_at n f d p r dr o s m fr t _ _ hk)) (Ev.val rfl)
def pend (s2 : ByteArray) (j : Nat) : Int := if j < s2.size ∧ bt s2 (j : Int) = 49 then 1 else 0
def endOf (s2 : ByteArray) (i : Nat) (bits : List Int) : Int := if i < (ConfLib.length n f d p r dr o s m fr t).toNat then pend s2 i else bits.getD (i - (ConfLib.length n f d p r dr o s m fr t).toNat) 0
def stA (a : Int) (s2 : ByteArray) : Nat → Int × List Int
  | 0 => (a, [])
  | i + 1 => ((nextV n f d p r dr o s m fr t (stA a s2 i).1 0 (endOf n f d p r dr o s m fr t s2 i (stA a s2 i).2 == 1)).1, (stA a s2 i).2 ++ [bitB n f d p r dr o s m fr t (nextV n f d p r dr o s m fr t (stA a s2 i).1 0 (endOf n f d p r dr o s m fr t s2 i (stA a s2 i).2 == 1)).1])
def sA (a : Int) (s2 : ByteArray) (i : Nat) : Int := (stA n f d p r dr o s m fr t a s2 i).1
def eA (a : Int) (s2 : ByteArray) (i : Nat) : Int := endOf n f d p r dr o s m fr t s2 i (stA n f d p r dr o s m fr t a s2 i).2
theorem sA_succ (a : Int) (s2 : ByteArray) (i : Nat) : sA n f d p r dr o s m fr t a s2 (i + 1) = (nextV n f d p r dr o s m fr t (sA n f d p r dr o s m fr t a s2 i) 0 (eA n f d p r dr o s m fr t a s2 i == 1)).1 := rfl
theorem bits_A (a : Int) (s2 : ByteArray) (i : Nat) : (stA n f d p r dr o s m fr t a s2 i).2 = (List.range i).map (fun (j : Nat) => bitB n f d p r dr o s m fr t (sA n f d p r dr o s m fr t a s2 (j + 1))) := by
  induction i with
  | zero => rfl
  | succ i ih =>
    rw [List.range_succ, List.map_append, ← ih]
    rfl
theorem eA_high (a : Int) (s2 : ByteArray) (j : Nat) (hl : 0 < (ConfLib.length n f d p r dr o s m fr t).toNat) : eA n f d p r dr o s m fr t a s2 ((ConfLib.length n f d p r dr o s m fr t).toNat + j) = bitB n f d p r dr o s m fr t (sA n f d p r dr o s m fr t a s2 (j + 1)) := by
  unfold eA endOf
  rw [if_neg (by omega), bits_A, Nat.add_sub_cancel_left]
  exact KW.getD_range (fun j => bitB n f d p r dr o s m fr t (sA n f d p r dr o s m fr t a s2 (j + 1))) 0 (by omega)
theorem eA_range (a : Int) (s2 : ByteArray) (i : Nat) : 0 ≤ eA n f d p r dr o s m fr t a s2 i ∧ eA n f d p r dr o s m fr t a s2 i ≤ 1 := by
  unfold eA endOf
  split
  · unfold pend
    split <;> omega
  · rw [bits_A, List.getD_eq_getElem?_getD, List.getElem?_map]
    cases (List.range i)[i - (ConfLib.length n f d p r dr o s m fr t).toNat]? with
    | none => show 0 ≤ (0 : Int) ∧ (0 : Int) ≤ 1; omega
    | some j => exact bitB_range n f d p r dr o s m fr t _
theorem go_at (hp : plain n f d p r dr o s m fr t = 0) (a : Int) (s2 : ByteArray) {k : Nat} (hk : 10 < k) (q : Nat) : ∀ i : Nat,
    beat_Alone.go k n f d p r dr o s m fr t q (sA n f d p r dr o s m fr t a s2 i) ((List.range (ConfLib.length n f d p r dr o s m fr t).toNat).map (fun (j : Nat) => eA n f d p r dr o s m fr t a s2 (i + j))) ((List.range i).map (fun (j : Nat) => 48 + eA n f d p r dr o s m fr t a s2 j)) =
      some ((List.range (i + q)).map (fun (j : Nat) => 48 + eA n f d p r dr o s m fr t a s2 j)) := by
  have h3 := len_pos n f d p r dr o s m fr t hp
  induction q with
  | zero => intro i; rfl
  | succ q ih =>
    intro i
    obtain ⟨N, hN⟩ : ∃ N, (ConfLib.length n f d p r dr o s m fr t).toNat = N + 1 := ⟨(ConfLib.length n f d p r dr o s m fr t).toNat - 1, by omega⟩
    have go := ih (i + 1)
    have hr := eA_range n f d p r dr o s m fr t a s2 i
    have hh := eA_high n f d p r dr o s m fr t a s2 i (by omega)
    have e1 : (List.range (N + 1)).map (fun (j : Nat) => eA n f d p r dr o s m fr t a s2 (i + j)) = eA n f d p r dr o s m fr t a s2 i :: (List.range N).map (fun (j : Nat) => eA n f d p r dr o s m fr t a s2 (i + 1 + j)) := by
      rw [List.range_succ_eq_map, List.map_cons, List.map_map]
      congr 1
      refine List.map_congr_left (fun j _ => ?_)
      show eA n f d p r dr o s m fr t a s2 (i + (j + 1)) = _
      rw [show i + (j + 1) = i + 1 + j by omega]
    have e2 : (List.range (N + 1)).map (fun (j : Nat) => eA n f d p r dr o s m fr t a s2 (i + 1 + j)) = (List.range N).map (fun (j : Nat) => eA n f d p r dr o s m fr t a s2 (i + 1 + j)) ++ [bitB n f d p r dr o s m fr t (sA n f d p r dr o s m fr t a s2 (i + 1))] := by
      rw [List.range_succ, List.map_append, ← hh, hN]
      show _ ++ [eA n f d p r dr o s m fr t a s2 (i + 1 + N)] = _
      rw [show i + 1 + N = N + 1 + i by omega]
    rw [hN] at go ⊢
    rw [e1]
    unfold beat_Alone.go
    rw [if_pos hr, next_at n f d p r dr o s m fr t _ _ _ hk]
    simp only [Option.bind_some]
    rw [bit_at n f d p r dr o s m fr t _ hk]
    simp only [Option.bind_some]
    rw [e2, List.range_succ, List.map_append, sA_succ] at go
    rw [show i + (q + 1) = i + 1 + q by omega]
    exact go
theorem st_len (a : Int) (s2 : ByteArray) (i : Nat) : (stA n f d p r dr o s m fr t a s2 i).2.length = i := by rw [bits_A, List.length_map, List.length_range]
end
end Go.Proofs.Ythblnnboeikgcaa.BeatLib
end
section
namespace Go.Proofs.Ythblnnboeikgcaa.BeatMath
structure Beat (l P : Nat) (E : Nat → Bool) (N : Nat → Nat) : Prop where
  len : 1 ≤ l
  per : 2 * l + 1 ≤ P
  le : ∀ t, N t ≤ P
  pulse : ∀ t, E t = true → N t = 0
  grow : ∀ t, E (t + 1) = false → N (t + 1) = min (N t + 1) P
  ends : ∀ t, E (t + l) = true ↔ (N t = P - l ∨ N t = P)
variable {l P : Nat} {E : Nat → Bool} {N : Nat → Nat}
structure Steady (l P : Nat) (E : Nat → Bool) (N : Nat → Nat) (L : Nat) : Prop where
  here : E L = true
  way : ∀ j, L < j + l → j ≤ L → N j ≠ P - l ∧ N j ≠ P
  low : ∀ t, L < t → t < l → E t = false
theorem steady_next (B : Beat l P E N) {L : Nat} (S : Steady l P E N L) (k : Nat) : 1 ≤ k → k < P → E (L + k) = false ∧ N (L + k) = k := by
  induction k using Nat.strongRecOn with
  | _ k ih =>
    intro h1 hP
    have hl := B.len
    have hp := B.per
    have hE : E (L + k) = false := by
      by_cases hlow : L + k < l
      · exact S.low _ (by omega) hlow
      · obtain ⟨j, hj⟩ : ∃ j, L + k = j + l := ⟨L + k - l, by omega⟩
        rw [hj]
        refine Bool.eq_false_iff.2 (fun h => ?_)
        have hh := (B.ends j).1 h
        by_cases hk : k ≤ l
        · have hw := S.way j (by omega) (by omega)
          rcases hh with hh | hh
          · exact hw.1 hh
          · exact hw.2 hh
        · have := (ih (k - l) (by omega) (by omega) (by omega)).2
          rw [show L + (k - l) = j by omega] at this
          omega
    refine ⟨hE, ?_⟩
    obtain ⟨k, rfl⟩ : ∃ q, k = q + 1 := ⟨k - 1, by omega⟩
    have hg := B.grow (L + k) hE
    have hN : N (L + k) = k := by
      by_cases h0 : k = 0
      · subst h0
        exact B.pulse _ S.here
      · exact (ih k (by omega) (by omega) (by omega)).2
    rw [hN] at hg
    rw [show L + (k + 1) = L + k + 1 by omega, hg]
    omega
theorem steady_per (B : Beat l P E N) {L : Nat} (S : Steady l P E N L) : Steady l P E N (L + P) := by
  have hl := B.len
  have hp := B.per
  have hE : E (L + P) = true := by
    have h := (steady_next B S (P - l) (by omega) (by omega)).2
    have := (B.ends (L + (P - l))).2 (.inl h)
    rwa [show L + (P - l) + l = L + P by omega] at this
  refine ⟨hE, fun j h1 h2 => ?_, fun t h1 h2 => absurd h2 (by omega)⟩
  obtain ⟨k, rfl⟩ : ∃ k, j = L + k := ⟨j - L, by omega⟩
  by_cases hk : k = P
  · subst hk
    have := B.pulse _ hE
    omega
  · have := (steady_next B S k (by omega) (by omega)).2
    omega
theorem steady_mul (B : Beat l P E N) {L : Nat} (S : Steady l P E N L) (q : Nat) : Steady l P E N (L + q * P) := by
  induction q with
  | zero => simpa using S
  | succ q ih =>
    have := steady_per B ih
    rwa [show L + q * P + P = L + (q + 1) * P by rw [Nat.add_mul, Nat.one_mul]; omega] at this
theorem steady_all (B : Beat l P E N) {L : Nat} (S : Steady l P E N L) (t : Nat) (h : L ≤ t) : E t = true ↔ (t - L) % P = 0 := by
  have hp := B.per
  have hd := Nat.div_add_mod (t - L) P
  have hm := Nat.mod_lt (t - L) (show 0 < P by omega)
  have S2 := steady_mul B S ((t - L) / P)
  have e : t = L + (t - L) / P * P + (t - L) % P := by rw [Nat.mul_comm] at hd; omega
  by_cases h0 : (t - L) % P = 0
  · have h9 := S2.here
    rw [h0, Nat.add_zero] at e
    rw [← e] at h9
    exact ⟨fun _ => h0, fun _ => h9⟩
  · have h9 := (steady_next B S2 ((t - L) % P) (by omega) hm).1
    rw [← e] at h9
    exact ⟨fun h => absurd (h9.symm.trans h) (by decide), fun h => absurd h h0⟩
theorem last_one (E : Nat → Bool) (b : Nat) : ∀ q, (∃ u, u < q ∧ u < b ∧ E u = true) → ∃ L, L < q ∧ L < b ∧ E L = true ∧ ∀ t, L < t → t < q → t < b → E t = false := by
  intro q
  induction q with
  | zero => rintro ⟨u, h, _⟩; exact absurd h (Nat.not_lt_zero _)
  | succ q ih =>
    rintro ⟨u, h1, h2, h3⟩
    by_cases hq : q < b ∧ E q = true
    · exact ⟨q, by omega, hq.1, hq.2, fun t h4 h5 _ => absurd h5 (by omega)⟩
    · by_cases hu : u = q
      · subst hu
        exact absurd ⟨h2, h3⟩ hq
      · obtain ⟨L, a1, a2, a3, a4⟩ := ih ⟨u, by omega, h2, h3⟩
        refine ⟨L, by omega, a2, a3, fun t h4 h5 h6 => ?_⟩
        by_cases ht : t = q
        · subst ht
          exact Bool.eq_false_iff.2 (fun h => hq ⟨h6, h⟩)
        · exact a4 t h4 (by omega) h6
theorem slow (B : Beat l P E N) {u : Nat} (hu : E u = true) (k : Nat) : N (u + k) ≤ k := by
  induction k with
  | zero =>
    have := B.pulse u hu
    show N u ≤ 0
    omega
  | succ k ih =>
    cases h : E (u + k + 1) with
    | true =>
      have := B.pulse _ h
      rw [show u + (k + 1) = u + k + 1 by omega]
      omega
    | false =>
      have := B.grow _ h
      rw [show u + (k + 1) = u + k + 1 by omega]
      omega
theorem free (B : Beat l P E N) (m : Nat) (h : ∀ t, t < m → E t = false) (k : Nat) (hk : k < m) : N k = min (N 0 + k) P := by
  induction k with
  | zero => have := B.le 0; omega
  | succ k ih =>
    have h1 := ih (by omega)
    have h2 := B.grow k (h _ hk)
    omega
theorem settles (B : Beat l P E N) : ∃ L, L ≤ P + 2 * l ∧ Steady l P E N L := by
  have hl := B.len
  have hp := B.per
  by_cases hA : ∃ u, u < l ∧ u < l ∧ E u = true
  · obtain ⟨u, hu, _, hEu, hul⟩ := last_one E l l hA
    obtain ⟨L, h1, _, h3, h4⟩ := last_one E (u + l) (u + l) ⟨u, by omega, by omega, hEu⟩
    have huL : u ≤ L := by
      rcases Nat.lt_or_ge L u with h | h
      · have := h4 u h (by omega) (by omega)
        rw [hEu] at this
        cases this
      · exact h
    refine ⟨L, by omega, h3, fun j hj1 hj2 => ?_, fun t ht1 ht2 => h4 t ht1 (by omega) (by omega)⟩
    by_cases hju : j < u
    · have hf := h4 (j + l) (by omega) (by omega) (by omega)
      refine ⟨fun h => ?_, fun h => ?_⟩
      · rw [(B.ends j).2 (.inl h)] at hf
        cases hf
      · rw [(B.ends j).2 (.inr h)] at hf
        cases hf
    · have := slow B hEu (j - u)
      rw [show u + (j - u) = j by omega] at this
      omega
  · have h0 : ∀ t, t < l → E t = false := fun t ht => Bool.eq_false_iff.2 (fun h => hA ⟨t, ht, ht, h⟩)
    have hv := B.le 0
    by_cases hB : N 0 ≤ P - l
    · have hno : ∀ t, t < P - N 0 → E t = false := by
        intro t
        induction t using Nat.strongRecOn with
        | _ t ih =>
          intro ht
          by_cases htl : t < l
          · exact h0 t htl
          · obtain ⟨j, rfl⟩ : ∃ j, t = j + l := ⟨t - l, by omega⟩
            have hf := free B (j + l) (fun t h => ih t h (by omega)) j (by omega)
            refine Bool.eq_false_iff.2 (fun h => ?_)
            rcases (B.ends j).1 h with hh | hh <;> omega
      have hfree := fun k hk => free B (P - N 0) hno k hk
      have hE : E (P - N 0) = true := by
        have := hfree (P - N 0 - l) (by omega)
        have h9 := (B.ends (P - N 0 - l)).2 (.inl (by omega))
        rwa [show P - N 0 - l + l = P - N 0 by omega] at h9
      refine ⟨P - N 0, by omega, hE, fun j hj1 hj2 => ?_, fun t ht1 ht2 => absurd ht2 (by omega)⟩
      by_cases hj : j = P - N 0
      · subst hj
        have := B.pulse _ hE
        omega
      · have := hfree j (by omega)
        omega
    · have hno : ∀ t, t < P - N 0 + l → E t = false := by
        intro t
        induction t using Nat.strongRecOn with
        | _ t ih =>
          intro ht
          by_cases htl : t < l
          · exact h0 t htl
          · obtain ⟨j, rfl⟩ : ∃ j, t = j + l := ⟨t - l, by omega⟩
            have hf := free B (j + l) (fun t h => ih t h (by omega)) j (by omega)
            refine Bool.eq_false_iff.2 (fun h => ?_)
            rcases (B.ends j).1 h with hh | hh <;> omega
      have hfree := fun k hk => free B (P - N 0 + l) hno k hk
      have hrun : ∀ i, i < l → E (P - N 0 + l + i) = true := by
        intro i hi
        have := hfree (P - N 0 + i) (by omega)
        have h9 := (B.ends (P - N 0 + i)).2 (.inr (by omega))
        rwa [show P - N 0 + i + l = P - N 0 + l + i by omega] at h9
      have hE : E (P - N 0 + 2 * l - 1) = true := by
        have := hrun (l - 1) (by omega)
        rwa [show P - N 0 + l + (l - 1) = P - N 0 + 2 * l - 1 by omega] at this
      refine ⟨P - N 0 + 2 * l - 1, by omega, hE, fun j hj1 hj2 => ?_, fun t ht1 ht2 => absurd ht2 (by omega)⟩
      have h9 := hrun (j - (P - N 0 + l)) (by omega)
      rw [show P - N 0 + l + (j - (P - N 0 + l)) = j by omega] at h9
      have := B.pulse _ h9
      omega
theorem window {L i P : Nat} (hP : 0 < P) (h : L ≤ i) : ∃ r, i ≤ r ∧ r < i + P ∧ ∀ k, i ≤ k → k < i + P → ((k - L) % P = 0 ↔ k = r) := by
  refine ⟨L + P * ((i - L + P - 1) / P), ?_, ?_, ?_⟩
  · have h1 := Nat.div_add_mod (i - L + P - 1) P
    have h2 := Nat.mod_lt (i - L + P - 1) hP
    omega
  · have h1 := Nat.div_add_mod (i - L + P - 1) P
    omega
  · intro k hk1 hk2
    have h1 := Nat.div_add_mod (i - L + P - 1) P
    have h2 := Nat.mod_lt (i - L + P - 1) hP
    have h3 := Nat.div_add_mod (k - L) P
    constructor
    · intro h0
      rw [h0, Nat.add_zero] at h3
      have hlt : (k - L) / P = (i - L + P - 1) / P := by
        generalize (k - L) / P = a at h3
        generalize (i - L + P - 1) / P = b at h1
        rcases Nat.lt_trichotomy a b with hab | hab | hab
        · have : P * (a + 1) ≤ P * b := Nat.mul_le_mul_left P hab
          rw [Nat.mul_add, Nat.mul_one] at this
          omega
        · exact hab
        · have : P * (b + 1) ≤ P * a := Nat.mul_le_mul_left P hab
          rw [Nat.mul_add, Nat.mul_one] at this
          omega
      rw [← hlt]
      omega
    · intro e
      rw [e, Nat.add_sub_cancel_left, Nat.mul_mod_right]
end Go.Proofs.Ythblnnboeikgcaa.BeatMath
end
