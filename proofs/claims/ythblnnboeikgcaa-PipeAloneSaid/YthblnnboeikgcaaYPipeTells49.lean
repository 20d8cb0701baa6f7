import Derived.Test.YthblnnboeikgcaaYPipeTells48
import Derived.Test.YthblnnboeikgcaaYPipeTells46
section
namespace Go.Proofs.Ythblnnboeikgcaa.pipeApart
open Go.RowKit Go.Proofs.Ythblnnboeikgcaa.P Go.Proofs.YthblnnboeikgcaaW.PrintWords Go.Proofs.YthblnnboeikgcaaW.PrintLast Go.Proofs.YthblnnboeikgcaaW.PrintMore
set_option linter.unusedVariables false
def W3 (x : Int) : Prop := (Lit.int .i64 x).wf = true
theorem op3 : Opens Try.prog 3 (Kd.int .i64) W3 := Opens.int Try.underlying3
def W22 (x : List Int) : Prop := x.length * 8 ≤ 140737488351232 ∧ ∀ y ∈ x, W3 y
theorem op22 : Opens Try.prog 22 (Kd.slice 3 (Kd.int .i64)) W22 := Opens.slice Try.underlying22 (by kernel_rfl) (by kernel_rfl) op3
def W24 (x : S24) : Prop := W3 x.f0 ∧ W3 x.f1 ∧ W3 x.f2 ∧ W3 x.f3 ∧ W3 x.f4 ∧ W3 x.f5 ∧ W3 x.f6 ∧ W3 x.f7 ∧ W3 x.f8 ∧ W3 x.f9 ∧ W22 x.f10
theorem op24 : Opens Try.prog 24 k24 W24 := Opens.iso (fun x : S24 => (x.f0, x.f1, x.f2, x.f3, x.f4, x.f5, x.f6, x.f7, x.f8, x.f9, x.f10)) (fun p => ⟨p.1, p.2.1, p.2.2.1, p.2.2.2.1, p.2.2.2.2.1, p.2.2.2.2.2.1, p.2.2.2.2.2.2.1, p.2.2.2.2.2.2.2.1, p.2.2.2.2.2.2.2.2.1, p.2.2.2.2.2.2.2.2.2.1, p.2.2.2.2.2.2.2.2.2.2⟩) (fun _ => rfl) (Opens.struct (tot := 11) Try.underlying24 (by kernel_rfl) (OpensF.cons (s := 1) rfl (by kernel_rfl) op3 (OpensF.cons (s := 1) rfl (by kernel_rfl) op3 (OpensF.cons (s := 1) rfl (by kernel_rfl) op3 (OpensF.cons (s := 1) rfl (by kernel_rfl) op3 (OpensF.cons (s := 1) rfl (by kernel_rfl) op3 (OpensF.cons (s := 1) rfl (by kernel_rfl) op3 (OpensF.cons (s := 1) rfl (by kernel_rfl) op3 (OpensF.cons (s := 1) rfl (by kernel_rfl) op3 (OpensF.cons (s := 1) rfl (by kernel_rfl) op3 (OpensF.cons (s := 1) rfl (by kernel_rfl) op3 (OpensF.last rfl (by kernel_rfl) op22))))))))))))
def W9 (x : ByteArray) : Prop := x.size ≤ 140737488351232
theorem op9 : Opens Try.prog 9 Kd.string W9 := Opens.string Try.underlying9
def W5 (x : Int) : Prop := (Lit.int .u8 x).wf = true
theorem op5 : Opens Try.prog 5 (Kd.int .u8) W5 := Opens.int Try.underlying5
def W66 (x : S66) : Prop := W3 x.f0 ∧ W5 x.f1
theorem op66 : Opens Try.prog 66 k66 W66 := Opens.iso (fun x : S66 => (x.f0, x.f1)) (fun p => ⟨p.1, p.2⟩) (fun _ => rfl) (Opens.struct (tot := 2) Try.underlying66 (by kernel_rfl) (OpensF.cons (s := 1) rfl (by kernel_rfl) op3 (OpensF.last rfl (by kernel_rfl) op5)))
def W37 (x : List ByteArray) : Prop := x.length * 16 ≤ 140737488351232 ∧ ∀ y ∈ x, W9 y
theorem op37 : Opens Try.prog 37 (Kd.slice 9 Kd.string) W37 := Opens.slice Try.underlying37 (by kernel_rfl) (by kernel_rfl) op9
def Pure : Prop := ∀ (x0 : S24) (x1 : ByteArray) (x2 : S66) (x3 : List ByteArray), W24 x0 → W9 x1 → W66 x2 → W37 x3 → ∃ k, l17PipeApart.f k x0.f0 x0.f1 x0.f2 x0.f3 x0.f4 x0.f5 x0.f6 x0.f7 x0.f8 x0.f9 x0.f10 x1 x2.f0 x2.f1 x3 = some true
end Go.Proofs.Ythblnnboeikgcaa.pipeApart
end
section
set_option linter.unusedVariables false
set_option linter.unusedSimpArgs false
set_option linter.unusedSectionVars false
namespace Go.Proofs.Ythblnnboeikgcaa.PipeLib
open Go.RowKit Go.Proofs.Ythblnnboeikgcaa.P Go.Proofs.YthblnnboeikgcaaW.PrintWords Go.Proofs.YthblnnboeikgcaaW.PrintMore Go.Proofs.Ythblnnboeikgcaa.ConfLib Go.Proofs.Ythblnnboeikgcaa.TallyLib Go.Proofs.Ythblnnboeikgcaa.KingLib Go.Proofs.Ythblnnboeikgcaa.VecLib
section
variable (n f d p r dr o s m fr : Int) (t : List Int)
def ageV (VS : List ByteArray) (a : Nat) (c : Int) : Int := if PlanLib.hears n f d p r dr o s m fr t (a : Int) < 0 then c else hearV n f d p r dr o s m fr t (PlanLib.hears n f d p r dr o s m fr t (a : Int)).toNat c VS
theorem run_get (hd : 1 ≤ d) (VS : List ByteArray) (S : ByteArray) (q : Nat) (hq : ∀ j, j < q → pipe_Move.ix d j ≤ S.size) :
    (∀ i, (∀ j, j < q → pipe_Move.ix d j ≠ i) → (pipe_Move.run n f d p r dr o s m fr t VS S (List.range q)).getD i 0 = (pipe_Move.L0 S).getD i 0) ∧
    (∀ j, j < q → (pipe_Move.run n f d p r dr o s m fr t VS S (List.range q)).getD (pipe_Move.ix d j) 0 = hearV n f d p r dr o s m fr t j ((pipe_Move.L0 S).getD (pipe_Move.ix d j) 0) VS) := by
  have inj : ∀ {a b : Nat}, a < b → pipe_Move.ix d a ≠ pipe_Move.ix d b := by
    intro a b h e
    unfold pipe_Move.ix at e
    have h1 : ((a : Int) + 1) * d ≤ (b : Int) * d := Int.mul_le_mul_of_nonneg_right (by omega) (by omega)
    have h2 : ((a : Int) + 1) * d = (a : Int) * d + d := by rw [Int.add_mul, Int.one_mul]
    have h3 : 0 ≤ (a : Int) * d := Int.mul_nonneg (by omega) (by omega)
    omega
  induction q with
  | zero => exact ⟨fun i _ => rfl, fun j hj => absurd hj (Nat.not_lt_zero _)⟩
  | succ q ih =>
    obtain ⟨iA, iB⟩ := ih (fun j hj => hq j (by omega))
    have hlen := pipe_Move.run_len n f d p r dr o s m fr t VS S (List.range q)
    have hself := iA (pipe_Move.ix d q) (fun j hj => inj hj)
    have hlt : pipe_Move.ix d q < (pipe_Move.run n f d p r dr o s m fr t VS S (List.range q)).length := by
      rw [hlen]
      have := hq q (by omega)
      omega
    rw [List.range_succ, pipe_Move.run_snoc]
    unfold pipe_Move.st
    rw [hself]
    refine ⟨fun i hi => ?_, fun j hj => ?_⟩
    · have hne : pipe_Move.ix d q ≠ i := hi q (by omega)
      rw [List.getD_eq_getElem?_getD, List.getElem?_set_ne hne, ← List.getD_eq_getElem?_getD]
      exact iA i (fun j hj => hi j (by omega))
    · by_cases e : j = q
      · subst e
        rw [List.getD_eq_getElem?_getD, List.getElem?_set_self hlt]
        rfl
      · rw [List.getD_eq_getElem?_getD, List.getElem?_set_ne (Ne.symm (inj (by omega))), ← List.getD_eq_getElem?_getD]
        exact iB j (by omega)
theorem L0_zero (S : ByteArray) : (pipe_Move.L0 S).getD 0 0 = 48 := rfl
theorem L0_succ (S : ByteArray) {i : Nat} (hi : i < S.size) : (pipe_Move.L0 S).getD (i + 1) 0 = bt S (i : Int) := by
  show (pipe_sound.nums S).getD i 0 = _
  unfold pipe_sound.nums
  exact KW.getD_range (fun j => bt S (j : Int)) 0 hi
theorem all_get (hp : plain n f d p r dr o s m fr t = 0) (VS : List ByteArray) (S : ByteArray) (hS : (S.size : Int) = ConfLib.length n f d p r dr o s m fr t) (i : Nat) (hi : i < S.size) :
    (pipe_Move.all n f d p r dr o s m fr t VS S).getD (i + 1) 0 = ageV n f d p r dr o s m fr t VS (i + 1) (bt S (i : Int)) := by
  have hf := plain_facts hp
  have hd : 1 ≤ d ∧ d ≤ 4 := ⟨by omega, by omega⟩
  have hr : ConfLib.rounds n f d p r dr o s m fr t = 3 * (f + 1) := by unfold ConfLib.rounds; rw [if_pos hp]
  have hl : ConfLib.length n f d p r dr o s m fr t = 3 * (f + 1) * d := by unfold ConfLib.length; rw [if_pos hp]
  have hlf := length_facts n f d p r dr o s m fr t
  have hix : ∀ j, j < (ConfLib.rounds n f d p r dr o s m fr t).toNat → pipe_Move.ix d j ≤ S.size := by
    intro j hj
    have h1 : ((j : Int) + 1) * d ≤ 3 * (f + 1) * d := Int.mul_le_mul_of_nonneg_right (by omega) (by omega)
    have h2 : ((j : Int) + 1) * d = (j : Int) * d + d := by rw [Int.add_mul, Int.one_mul]
    unfold pipe_Move.ix
    omega
  obtain ⟨A, B⟩ := run_get n f d p r dr o s m fr t hd.1 VS S (ConfLib.rounds n f d p r dr o s m fr t).toNat hix
  have h0 := L0_succ S hi
  unfold pipe_Move.all ageV PlanLib.hears
  rw [if_pos hp]
  by_cases h1 : (((i + 1 : Nat) : Int)) < d
  · rw [if_pos h1, if_pos (by decide), ← h0]
    refine A _ (fun j hj e => ?_)
    have h3 : 0 ≤ (j : Int) * d := Int.mul_nonneg (by omega) (by omega)
    unfold pipe_Move.ix at e
    omega
  · rw [if_neg h1]
    rcases PlanLib.ex_cases (d := d) (r := 3 * (f + 1)) (t := ((i + 1 : Nat) : Int) - d) hd with ⟨e, hno⟩ | ⟨x, hx0, hx1, hx2, e⟩
    · rw [e, if_pos (by decide), ← h0]
      refine A _ (fun j hj e2 => ?_)
      have h3 : 0 ≤ (j : Int) * d := Int.mul_nonneg (by omega) (by omega)
      refine hno (j : Int) (by omega) (by omega) ?_
      unfold pipe_Move.ix at e2
      omega
    · rw [e, if_neg (by omega)]
      have e3 : pipe_Move.ix d x.toNat = i + 1 := by
        unfold pipe_Move.ix
        rw [Int.toNat_of_nonneg hx0]
        omega
      have := B x.toNat (by omega)
      rw [e3, h0] at this
      exact this
def lastV (VS : List ByteArray) (S : ByteArray) : Int := val ((pipe_Move.all n f d p r dr o s m fr t VS S).getD S.size 0)
def moveV (VS : List ByteArray) (a : ByteArray) : ByteArray × Int :=
  if plain n f d p r dr o s m fr t = 0 then (strOfNums ((pipe_Move.all n f d p r dr o s m fr t VS (well n f d p r dr o s m fr t a)).take (well n f d p r dr o s m fr t a).size), if lastV n f d p r dr o s m fr t VS (well n f d p r dr o s m fr t a) = 1 then 1 else 0) else (E0, 0)
theorem digits_one {y : Int} (h0 : 0 ≤ y) (h1 : y ≤ 255) : txt (vec_Values.digits (strOfNums [y])) = txt [val y] := by
  congr 1
  show List.map _ (List.range 1) = _
  show [vec_Values_1.digit (bt (strOfNums [y]) ((0 : Nat) : Int))] = _
  rw [show ((0 : Nat) : Int) = 0 from rfl, one_bt h0 h1]
theorem is_one {v : Int} (h0 : 0 ≤ v) (h1 : v ≤ 2) : txt [v] = (⟨#[49]⟩ : ByteArray) ↔ v = 1 := by
  have h : v = 0 ∨ v = 1 ∨ v = 2 := by omega
  rcases h with rfl | rfl | rfl <;> decide
theorem all_len (VS : List ByteArray) (S : ByteArray) : (pipe_Move.all n f d p r dr o s m fr t VS S).length = S.size + 1 := pipe_Move.run_len ..
theorem all_bytes (VS : List ByteArray) (S : ByteArray) (i : Nat) : 0 ≤ (pipe_Move.all n f d p r dr o s m fr t VS S).getD i 0 ∧ (pipe_Move.all n f d p r dr o s m fr t VS S).getD i 0 ≤ 255 := pipe_Move.run_bytes _ _ _ _ _ _ _ _ _ _ _ VS S _ i
theorem move_at (VS : List ByteArray) (hl : VS.length ≤ 1000000) (a : ByteArray) {k : Nat} (hk : 10 + VS.length < k) : pipe_Move.f k n f d p r dr o s m fr t a VS = some (moveV n f d p r dr o s m fr t VS a) := by
  unfold pipe_Move.f moveV lastV
  rw [if_pos ⟨hk, hl⟩]
  by_cases hp : plain n f d p r dr o s m fr t = 0
  · rw [if_pos hp, if_pos hp]
    generalize well n f d p r dr o s m fr t a = S
    have hb := all_bytes n f d p r dr o s m fr t VS S S.size
    unfold pipe_Move.out
    generalize pipe_Move.all n f d p r dr o s m fr t VS S = L at hb ⊢
    have hv := vec_Values_1.range (L.getD S.size 0)
    rw [values_at _ (by show 1 ≤ 140737488351232; decide)]
    simp only [Option.bind_some]
    rw [digits_one hb.1 hb.2]
    by_cases h : val (L.getD S.size 0) = 1
    · rw [if_pos h, if_pos ((is_one hv.1 hv.2).2 h)]
    · rw [if_neg h, if_neg (fun e => h ((is_one hv.1 hv.2).1 e))]
  · rw [if_neg hp, if_neg hp]
theorem move_ev (VS : List ByteArray) (hl : VS.length ≤ 1000000) (a : ByteArray) : Ev (fun k => pipe_Move.f k n f d p r dr o s m fr t a VS) (moveV n f d p r dr o s m fr t VS a) :=
  Ev.from (10 + VS.length) (fun k hk => move_at n f d p r dr o s m fr t VS hl a hk)
end
end Go.Proofs.Ythblnnboeikgcaa.PipeLib
end
