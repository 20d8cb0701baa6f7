import Derived.RangeFuncNested
import Derived.RangeFuncBound
import Derived.RangeFuncCalls
import Derived.RangeFuncLeaves
import Derived.Shelf.Abstract
import Derived.Shelf.RegionOpen
import Derived.WalkKit
import Derived.OwnWalkIn
import Derived.TacticsInMore
import Derived.LoopNIn
import Derived.LoopIn
import Derived.Maps.AppendAt
import Derived.Test.YthblnnboeikgcaaYBeatSteps51
section
namespace Go.Proofs.Ythblnnboeikgcaa.B
open Go.RowKit Go.Proofs.YthblnnboeikgcaaW.PrintWords Go.Proofs.YthblnnboeikgcaaW.PrintLast Go.Proofs.YthblnnboeikgcaaW.PrintMore
attribute [local go_sem] max2_int min2_int max_two min_two max_three min_three max_four min_four   -- for this text's walks alone
set_option linter.unusedVariables false
set_option linter.unusedSimpArgs false
attribute [local go_sem] Oper.semAt_some
def pipe_Tell.ok (d R : Int) (v r : ByteArray) : Prop := 0 ≤ R ∧ R ≤ 15 ∧ (R = 0 ∨ (0 ≤ d ∧ d ≤ 4)) ∧ r.size ≤ 1000000 ∧ ∀ j, j < R.toNat → (j : Int) * d < (v.size : Int)
instance (d R : Int) (v r : ByteArray) : Decidable (pipe_Tell.ok d R v r) := by unfold pipe_Tell.ok; infer_instance
def pipe_Tell.told (d : Int) (v : ByteArray) (m : Nat) : List Int := (List.range m).map (fun (j : Nat) => bt v ((j : Int) * d))
end Go.Proofs.Ythblnnboeikgcaa.B
end
section
set_option linter.unusedVariables false
set_option linter.unusedSimpArgs false
set_option linter.unusedSectionVars false
namespace Go.Proofs.Ythblnnboeikgcaa.PipeLib
open Go.RowKit Go.Proofs.Ythblnnboeikgcaa.B Go.Proofs.YthblnnboeikgcaaW.PrintWords Go.Proofs.YthblnnboeikgcaaW.PrintMore Go.Proofs.Ythblnnboeikgcaa.ConfLib Go.Proofs.Ythblnnboeikgcaa.TallyLib Go.Proofs.Ythblnnboeikgcaa.KingLib Go.Proofs.Ythblnnboeikgcaa.VecLib
theorem one_txt : (⟨#[48]⟩ : ByteArray) = txt [0] := rfl
theorem rep_ev (N : Nat) (hN : N ≤ 1000) : Ev (fun k => r10Rep.f k (⟨#[48]⟩ : ByteArray) (N : Int)) (txt (List.replicate N 0)) := by
  have key : ∀ (q i : Nat), i + q = N → Ev (fun k => r10Rep.l0 k (⟨#[48]⟩ : ByteArray) (N : Int) (txt (List.replicate i 0)) (i : Int)) (txt (List.replicate N 0)) := by
    intro q
    induction q with
    | zero =>
      intro i hi
      obtain rfl : i = N := by omega
      exact Ev.step (fun k => r10Rep.l0.eq_2 ..) (Ev.neg (by omega) (Ev.val rfl))
    | succ q ih =>
      intro i hi
      have go := ih (i + 1) (by omega)
      rw [List.replicate_succ', txt_append, ← one_txt, ← succ_w (by omega)] at go
      refine Ev.step (fun k => r10Rep.l0.eq_2 ..) (Ev.pos (by omega) (Ev.pos ?_ go))
      rw [txt_size, List.length_replicate]
      show i + 1 ≤ _
      omega
  exact Ev.congr (fun k => r10Rep.f.eq_1 ..) (key N 0 (by omega))
section
variable (n f d p r dr o s m fr : Int) (t : List Int)
theorem ref_blank_ev : Ev (fun k => r17Blank.f k n f d p r dr o s m fr t) (txt (List.replicate (ConfLib.length n f d p r dr o s m fr t).toNat 0)) := by
  have hl := length_facts n f d p r dr o s m fr t
  refine Ev.congr (fun k => r17Blank.f.eq_1 ..) ?_
  refine Ev.bind (Ev.from 700 (fun k hk => ref_length_at n f d p r dr o s m fr t hk)) ?_
  have := rep_ev (ConfLib.length n f d p r dr o s m fr t).toNat (by omega)
  rw [Int.toNat_of_nonneg hl.1] at this
  exact Ev.bind this (Ev.val rfl)
theorem ref_well_ev (a : ByteArray) : Ev (fun k => r17well.f k n f d p r dr o s m fr t a) (well n f d p r dr o s m fr t a) := by
  refine Ev.congr (fun k => r17well.f.eq_1 ..) ?_
  refine Ev.bind (Ev.from 700 (fun k hk => ref_length_at n f d p r dr o s m fr t hk)) ?_
  unfold well
  by_cases h : (a.size : Int) = ConfLib.length n f d p r dr o s m fr t
  · rw [if_pos h]
    exact Ev.pos h (Ev.val rfl)
  · rw [if_neg h]
    exact Ev.neg h (Ev.bind (ref_blank_ev n f d p r dr o s m fr t) (Ev.val rfl))
theorem put_list (S : ByteArray) (i : Nat) (x : Int) : (pipe_sound.put S i x).data.toList = S.data.toList.set i (UInt8.ofNat x.toNat) := by
  have hw : (strOfNums (pipe_sound.nums S)).data.toList = S.data.toList := by rw [pipe_sound.whole]
  have h : ∀ xs : List Int, (strOfNums xs).data.toList = xs.map (fun z => UInt8.ofNat z.toNat) := fun xs => by simp [strOfNums]
  rw [h] at hw
  show (strOfNums ((pipe_sound.nums S).set i x)).data.toList = _
  rw [h, List.map_set, hw]
def beginV (a : ByteArray) (b : Int) : ByteArray := if plain n f d p r dr o s m fr t = 0 then pipe_sound.put (well n f d p r dr o s m fr t a) 0 (48 + code (KingLib.start b).1 (KingLib.start b).2) else E0
theorem len_pos (hp : plain n f d p r dr o s m fr t = 0) : 3 ≤ ConfLib.length n f d p r dr o s m fr t := by
  have hf := plain_facts hp
  have := mul_d (f := f) (d := d) (by omega) (by omega)
  unfold ConfLib.length
  rw [if_pos hp]
  omega
theorem begin_at (a : ByteArray) (b : Int) {k : Nat} (hk : 10 < k) : pipe_Begin.f k n f d p r dr o s m fr t a b = some (beginV n f d p r dr o s m fr t a b) := by
  have hw := well_size n f d p r dr o s m fr t a
  have hl := length_facts n f d p r dr o s m fr t
  have hc := code_range (KingLib.start b).1 (KingLib.start b).2
  unfold pipe_Begin.f beginV
  rw [plain_at n f d p r dr o s m fr t hk]
  simp only [Option.bind_some]
  by_cases hp : plain n f d p r dr o s m fr t = 0
  · have h3 := len_pos n f d p r dr o s m fr t hp
    rw [if_pos hp, if_pos hp, sound_at n f d p r dr o s m fr t a hk, start_at]
    simp only [Option.bind_some]
    rw [code_at]
    simp only [Option.bind_some]
    rw [if_pos ⟨by omega, by omega, hc.1, hc.2⟩]
  · rw [if_neg hp, if_neg hp]
theorem ref_begin_ev (a : ByteArray) (b : Int) : Ev (fun k => r17Begin.f k n f d p r dr o s m fr t a b) (beginV n f d p r dr o s m fr t a b) := by
  have hw := well_size n f d p r dr o s m fr t a
  have hl := length_facts n f d p r dr o s m fr t
  have hc := code_range (KingLib.start b).1 (KingLib.start b).2
  refine Ev.congr (fun k => r17Begin.f.eq_1 ..) (Ev.bind (Ev.from 700 (fun k hk => ref_plain_at n f d p r dr o s m fr t hk)) ?_)
  unfold beginV
  by_cases hp : plain n f d p r dr o s m fr t = 0
  · have h3 := len_pos n f d p r dr o s m fr t hp
    rw [if_pos hp]
    refine Ev.pos hp (Ev.some_ (ref_start_at b) (Ev.some_ (ref_code_at _ _) (Ev.some_ (byte_at hc.1 (by omega)) (Ev.bind (ref_well_ev n f d p r dr o s m fr t a) (Ev.pos (by omega) (Ev.pos ?_ (Ev.val ?_)))))))
    · rw [txt_size]
      simp
      omega
    · refine Bytes.ext ?_
      rw [Bytes.append_list, put_list, Bytes.drop_list, txt_list]
      have hne : (well n f d p r dr o s m fr t a).data.toList.length = (well n f d p r dr o s m fr t a).size := data_length _
      cases hL : (well n f d p r dr o s m fr t a).data.toList with
      | nil => rw [hL] at hne; simp at hne; omega
      | cons x l => rfl
  · rw [if_neg hp]
    exact Ev.neg hp (Ev.val rfl)
end
end Go.Proofs.Ythblnnboeikgcaa.PipeLib
end
