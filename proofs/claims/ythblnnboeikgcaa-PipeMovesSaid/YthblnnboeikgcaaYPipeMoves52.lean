import Derived.Test.YthblnnboeikgcaaYPipeMoves51
section
set_option linter.unusedVariables false
set_option linter.unusedSimpArgs false
namespace Go.Proofs.Ythblnnboeikgcaa.PlanLib
open Go.RowKit Go.Proofs.Ythblnnboeikgcaa.P Go.Proofs.YthblnnboeikgcaaW.PrintWords Go.Proofs.Ythblnnboeikgcaa.ConfLib
theorem rounds_plain {n f d p r dr o s m fr : Int} {t : List Int} (hp : plain n f d p r dr o s m fr t = 0) : ConfLib.rounds n f d p r dr o s m fr t = 3 * (f + 1) := by unfold ConfLib.rounds; rw [if_pos hp]
theorem rounds_not {n f d p r dr o s m fr : Int} {t : List Int} (hp : ¬ plain n f d p r dr o s m fr t = 0) : ConfLib.rounds n f d p r dr o s m fr t = 0 := by unfold ConfLib.rounds; rw [if_neg hp]
theorem hears_loop (n f d p r dr o s m fr : Int) (t : List Int) (age : Int) (hp : plain n f d p r dr o s m fr t = 0) (q : Nat) : ∀ (x : Int) (k : Nat), 0 ≤ x → x + q = 3 * (f + 1) → (∀ y, 0 ≤ y → y < x → age ≠ (y + 1) * d) → 800 + q < k → r15Hears.l0 k age x n f d p r dr o s m fr t = some (if age < d then -1 else ex d (3 * (f + 1)) (age - d)) := by
  have hb := plain_facts hp
  have hd : d = 1 ∨ d = 2 ∨ d = 3 ∨ d = 4 := by omega
  induction q with
  | zero =>
    intro x k h0 hq hy hk
    obtain ⟨k, rfl⟩ : ∃ j, k = j + 1 := ⟨k - 1, by omega⟩
    simp only [r15Hears.l0]
    rw [ref_rounds_at n f d p r dr o s m fr t (by omega), rounds_plain hp]
    simp only [Option.bind_some]
    rw [if_neg (by omega)]
    by_cases h : age < d
    · rw [if_pos h]
    · rw [if_neg h, ex_none (by omega) (fun y h1 h2 h3 => hy y h1 (by omega) (by rcases hd with rfl | rfl | rfl | rfl <;> omega))]
  | succ q ih =>
    intro x k h0 hq hy hk
    obtain ⟨k, rfl⟩ : ∃ j, k = j + 1 := ⟨k - 1, by omega⟩
    simp only [r15Hears.l0]
    have hm := mul_small (x := x + 1) (d := d) (by omega) (by omega) (by omega)
    rw [ref_rounds_at n f d p r dr o s m fr t (by omega), rounds_plain hp]
    simp only [Option.bind_some]
    rw [if_pos (by omega), ConfLib.wrap_small (n := x + 1) (by omega) (by omega), ConfLib.wrap_small (n := (x + 1) * d) (by omega) (by omega)]
    by_cases h : age = (x + 1) * d
    · have hlt : ¬ age < d := by rcases hd with rfl | rfl | rfl | rfl <;> omega
      rw [if_pos h, if_neg hlt, ex_eq (by omega) h0 (by omega) (by rcases hd with rfl | rfl | rfl | rfl <;> omega)]
    · rw [if_neg h]
      exact ih (x + 1) k (by omega) (by omega) (fun y h1 h2 => by
        by_cases e : y = x
        · rw [e]; exact h
        · exact hy y h1 (by omega)) (by omega)
theorem ref_hears_at (n f d p r dr o s m fr : Int) (t : List Int) (age : Int) {k : Nat} (hk : 1000 < k) : r15Hears.f k n f d p r dr o s m fr t age = some (hears n f d p r dr o s m fr t age) := by
  unfold r15Hears.f hears
  by_cases hp : plain n f d p r dr o s m fr t = 0
  · have hb := plain_facts hp
    rw [if_pos hp]
    exact hears_loop n f d p r dr o s m fr t age hp (3 * (f + 1)).toNat 0 k (by omega) (by omega) (fun y h1 h2 => by omega) (by omega)
  · obtain ⟨k, rfl⟩ : ∃ j, k = j + 1 := ⟨k - 1, by omega⟩
    simp only [r15Hears.l0]
    rw [ref_rounds_at n f d p r dr o s m fr t (by omega), rounds_not hp, if_neg hp]
    rfl
theorem ref_king_at (n f d p r dr o s m fr : Int) (t : List Int) (x : Int) {k : Nat} (hk : 1000 < k) : r15King.f k n f d p r dr o s m fr t x = some (king n f d p r dr o s m fr t x) := by
  have hb := rounds_facts (n := n) (f := f) (d := d) (p := p) (r := r) (dr := dr) (o := o) (s := s) (m := m) (fr := fr) (t := t)
  unfold r15King.f king
  by_cases h0 : x < 0
  · rw [if_pos h0, if_pos (.inl h0)]
  rw [if_neg h0, ref_rounds_at n f d p r dr o s m fr t (by omega)]
  simp only [Option.bind_some]
  by_cases h1 : x ≥ ConfLib.rounds n f d p r dr o s m fr t
  · rw [if_pos h1, if_pos (.inr h1)]
  · rw [if_neg h1, if_neg (by omega), Int.tdiv_eq_ediv_of_nonneg (by omega), ConfLib.wrap_small (by omega) (by omega)]
theorem ex_range {d r t : Int} (hd : 1 ≤ d ∧ d ≤ 4) (hr : r ≤ 15) : -1 ≤ ex d r t ∧ ex d r t ≤ 14 := by
  rcases ex_cases (r := r) (t := t) hd with ⟨h, _⟩ | ⟨x, h0, h1, _, h⟩ <;> omega
theorem hears_range (n f d p r dr o s m fr : Int) (t : List Int) (age : Int) : -1 ≤ hears n f d p r dr o s m fr t age ∧ hears n f d p r dr o s m fr t age ≤ 14 := by
  unfold hears
  by_cases hp : plain n f d p r dr o s m fr t = 0
  · have hb := plain_facts hp
    rw [if_pos hp]
    by_cases h1 : age < d
    · rw [if_pos h1]
      omega
    · rw [if_neg h1]
      exact ex_range (by omega) (by omega)
  · rw [if_neg hp]
    omega
theorem hears_small {n f d p r dr o s m fr : Int} {t : List Int} {age : Int} (hp : plain n f d p r dr o s m fr t = 0) (h : 0 ≤ hears n f d p r dr o s m fr t age) : hears n f d p r dr o s m fr t age < 3 * (f + 1) := by
  have hb := plain_facts hp
  unfold hears at h ⊢
  rw [if_pos hp] at h ⊢
  by_cases h1 : age < d
  · rw [if_pos h1] at h
    omega
  · rw [if_neg h1] at h ⊢
    rcases ex_cases (d := d) (r := 3 * (f + 1)) (t := age - d) (by omega) with ⟨h2, _⟩ | ⟨x, h0, h2, _, h3⟩ <;> omega
end Go.Proofs.Ythblnnboeikgcaa.PlanLib
end
section
set_option linter.unusedVariables false
set_option linter.unusedSimpArgs false
set_option linter.unusedSectionVars false
namespace Go.Proofs.Ythblnnboeikgcaa.PipeLib
open Go.RowKit Go.Proofs.Ythblnnboeikgcaa.P Go.Proofs.YthblnnboeikgcaaW.PrintWords Go.Proofs.YthblnnboeikgcaaW.PrintMore Go.Proofs.Ythblnnboeikgcaa.ConfLib Go.Proofs.Ythblnnboeikgcaa.TallyLib Go.Proofs.Ythblnnboeikgcaa.KingLib Go.Proofs.Ythblnnboeikgcaa.VecLib
theorem one_txt : (⟨#[48]⟩ : ByteArray) = txt [0] := rfl
theorem rep_ev (N : Nat) (hN : N ≤ 1000) : Ev (fun k => r10Rep.f k (⟨#[48]⟩ : ByteArray) (N : Int)) (txt (List.replicate N 0)) := by
  have key : ∀ (q i : Nat), i + q = N → Ev (fun k => r10Rep.l0 k (⟨#[48]⟩ : ByteArray) (N : Int) (txt (List.replicate i 0)) (i : Int)) (txt (List.replicate N 0)) := by
    intro q
    induction q with
    | zero =>
      intro i hi
      obtain rfl : i = N := by omega
      exact Ev.step (fun k => r10Rep.l0.eq_2 ..) (Ev.neg (by omega) (Ev.val rfl))
    | succ q ih =>
      intro i hi
      have go := ih (i + 1) (by omega)
      rw [List.replicate_succ', txt_append, ← one_txt, ← succ_w (by omega)] at go
      refine Ev.step (fun k => r10Rep.l0.eq_2 ..) (Ev.pos (by omega) (Ev.pos ?_ go))
      rw [txt_size, List.length_replicate]
      show i + 1 ≤ _
      omega
  exact Ev.congr (fun k => r10Rep.f.eq_1 ..) (key N 0 (by omega))
section
variable (n f d p r dr o s m fr : Int) (t : List Int)
theorem ref_blank_ev : Ev (fun k => r17Blank.f k n f d p r dr o s m fr t) (txt (List.replicate (ConfLib.length n f d p r dr o s m fr t).toNat 0)) := by
  have hl := length_facts n f d p r dr o s m fr t
  refine Ev.congr (fun k => r17Blank.f.eq_1 ..) ?_
  refine Ev.bind (Ev.from 700 (fun k hk => ref_length_at n f d p r dr o s m fr t hk)) ?_
  have := rep_ev (ConfLib.length n f d p r dr o s m fr t).toNat (by omega)
  rw [Int.toNat_of_nonneg hl.1] at this
  exact Ev.bind this (Ev.val rfl)
theorem ref_well_ev (a : ByteArray) : Ev (fun k => r17well.f k n f d p r dr o s m fr t a) (well n f d p r dr o s m fr t a) := by
  refine Ev.congr (fun k => r17well.f.eq_1 ..) ?_
  refine Ev.bind (Ev.from 700 (fun k hk => ref_length_at n f d p r dr o s m fr t hk)) ?_
  unfold well
  by_cases h : (a.size : Int) = ConfLib.length n f d p r dr o s m fr t
  · rw [if_pos h]
    exact Ev.pos h (Ev.val rfl)
  · rw [if_neg h]
    exact Ev.neg h (Ev.bind (ref_blank_ev n f d p r dr o s m fr t) (Ev.val rfl))
theorem len_pos (hp : plain n f d p r dr o s m fr t = 0) : 3 ≤ ConfLib.length n f d p r dr o s m fr t := by
  have hf := plain_facts hp
  have := mul_d (f := f) (d := d) (by omega) (by omega)
  unfold ConfLib.length
  rw [if_pos hp]
  omega
end
end Go.Proofs.Ythblnnboeikgcaa.PipeLib
end
