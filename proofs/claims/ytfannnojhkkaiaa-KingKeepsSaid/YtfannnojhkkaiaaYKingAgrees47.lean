import Derived.Test.YtfannnojhkkaiaaYKingAgrees46
import Derived.Test.YtfannnojhkkaiaaYKingAgrees35
set_option linter.unusedVariables false
set_option linter.unusedSimpArgs false
set_option linter.unusedSectionVars false
namespace Go.Proofs.Ytfannnojhkkaiaa.KingLib
open Go.RowKit Go.Proofs.Ytfannnojhkkaiaa.X Go.Proofs.YtfannnojhkkaiaaW.PrintWords Go.Proofs.YtfannnojhkkaiaaW.PrintMore Go.Proofs.Ytfannnojhkkaiaa.ConfLib Go.Proofs.Ytfannnojhkkaiaa.TallyLib
def hon (F : List Int) (k : Nat) : Bool := !F.contains (k : Int)
section
variable (n f d p r dr o s m fr : Int) (t F L : List Int)
theorem rd_getD (l : List Int) (i : Nat) : rd l (i : Int) = l.getD i 0 := by simp [rd]
theorem at_range (bits : List Int) (x : Nat) {i : Nat} (hi : i < n.toNat) : 0 ≤ (rdB (at_ n f d p r dr o s m fr t F L bits x) (i : Int)).f0 ∧ (rdB (at_ n f d p r dr o s m fr t F L bits x) (i : Int)).f0 ≤ 2 := by
  cases x with
  | zero =>
    have : rdB (king_Play.first n bits) (i : Int) = king_Play.start (rd bits (i : Int)) := by
      simp [rd_T52, king_Play.first, List.getD_eq_getElem?_getD, hi]
    show 0 ≤ (rdB (king_Play.first n bits) (i : Int)).f0 ∧ (rdB (king_Play.first n bits) (i : Int)).f0 ≤ 2
    rw [this]
    unfold king_Play.start
    split <;> (dsimp only; omega)
  | succ x =>
    show 0 ≤ (rdB (exch n f d p r dr o s m fr t F L (x : Int) (at_ n f d p r dr o s m fr t F L bits x)) (i : Int)).f0 ∧ (rdB (exch n f d p r dr o s m fr t F L (x : Int) (at_ n f d p r dr o s m fr t F L bits x)) (i : Int)).f0 ≤ 2
    rw [exch_get n f d p r dr o s m fr t F L _ _ hi]
    exact step_range n f d p r dr o s m fr t _ _ _ _ _
theorem value_id {v : Int} (h : 0 ≤ v ∧ v ≤ 2) : value v = v := by unfold value; rw [if_neg (by omega)]
theorem play_run (hp : plain n f d p r dr o s m fr t = 0) (bits : List Int) : KingMath.Run n.toNat f.toNat (hon F)
    (fun x i => (value (rdB (at_ n f d p r dr o s m fr t F L bits x) (i : Int)).f0, (rdB (at_ n f d p r dr o s m fr t F L bits x) (i : Int)).f1))
    (fun x i => votes n F L (x : Int) (at_ n f d p r dr o s m fr t F L bits x) (i : Int)) := by
  have hb := plain_facts hp
  refine ⟨fun x hx => ⟨fun i hi hh => king_play_votes.votes_len .., fun i k hi hh hk hhk => ?_⟩, fun x i hx hi hh => ?_⟩
  · have hc : ¬ F.contains (k : Int) = true := by
      unfold hon at hhk
      simpa using hhk
    show (king_play_votes.votes n F L (at_ n f d p r dr o s m fr t F L bits x) (x : Int) (i : Int)).getD k 0 = value _
    rw [king_play_votes.votes_at n F L _ (x : Int) (i : Int) hk, if_neg hc, value_id (at_range n f d p r dr o s m fr t F L bits x hk)]
  · show (value (rdB (exch n f d p r dr o s m fr t F L (x : Int) (at_ n f d p r dr o s m fr t F L bits x)) (i : Int)).f0, (rdB (exch n f d p r dr o s m fr t F L (x : Int) (at_ n f d p r dr o s m fr t F L bits x)) (i : Int)).f1) = _
    rw [exch_get n f d p r dr o s m fr t F L _ _ hi]
    unfold bitNext
    dsimp only
    rw [value_id (step_range n f d p r dr o s m fr t _ _ _ _ _), show ((x : Int) / 3) = ((x / 3 : Nat) : Int) by omega, rd_getD, step_math n f d p r dr o s m fr t hp, show ((n.toNat : Nat) : Int) = n by omega, show ((f.toNat : Nat) : Int) = f by omega]
theorem play_get (hp : plain n f d p r dr o s m fr t = 0) (bits : List Int) {i : Nat} (hi : i < n.toNat) : rd (play n f d p r dr o s m fr t F L bits) (i : Int) = if F.contains (i : Int) then -1 else (rdB (at_ n f d p r dr o s m fr t F L bits (3 * (f.toNat + 1))) (i : Int)).f0 := by
  have hb := plain_facts hp
  have h0 := run_at_ n f d p r dr o s m fr t F L bits (3 * (f + 1)).toNat 0
  have hl := at_len n f d p r dr o s m fr t F L bits (0 + (3 * (f + 1)).toNat)
  unfold play
  rw [if_pos hp, rd_getD]
  show (king_play_ends.ends F (run n f d p r dr o s m fr t F L (3 * (f + 1)).toNat ((0 : Nat) : Int) (at_ n f d p r dr o s m fr t F L bits 0))).getD i 0 = _
  rw [h0, king_play_ends.ends_at F _ (by omega), show 0 + (3 * (f + 1)).toNat = 3 * (f.toNat + 1) by omega]
theorem play_len (hp : plain n f d p r dr o s m fr t = 0) (bits : List Int) : (play n f d p r dr o s m fr t F L bits).length = n.toNat := by
  unfold play
  rw [if_pos hp, king_play_ends.ends_len]
  exact run_len n f d p r dr o s m fr t F L _ _ _ (king_Play.first_len n bits)
theorem play_agrees (hp : plain n f d p r dr o s m fr t = 0) (hf : KingMath.bad n.toNat (hon F) ≤ f.toNat) (bits : List Int) : ∃ w : Int, (w = 0 ∨ w = 1) ∧ ∀ i, i < n.toNat → F.contains (i : Int) = false → rd (play n f d p r dr o s m fr t F L bits) (i : Int) = w := by
  have hb := plain_facts hp
  obtain ⟨w, hw, h⟩ := KingMath.agrees hf (by omega) (play_run n f d p r dr o s m fr t F L hp bits)
  refine ⟨w, hw, fun i hi hc => ?_⟩
  have := h i hi (by unfold hon; rw [hc]; rfl)
  dsimp only at this
  rw [value_id (at_range n f d p r dr o s m fr t F L bits _ hi)] at this
  rw [play_get n f d p r dr o s m fr t F L hp bits hi, if_neg (by rw [hc]; decide), this]
theorem play_keeps (hp : plain n f d p r dr o s m fr t = 0) (hf : KingMath.bad n.toNat (hon F) ≤ f.toNat) (bits : List Int) {w : Int} (hw : w = 0 ∨ w = 1) (hs : ∀ i, i < n.toNat → F.contains (i : Int) = false → rd bits (i : Int) = w) :
    ∀ i, i < n.toNat → F.contains (i : Int) = false → rd (play n f d p r dr o s m fr t F L bits) (i : Int) = w := by
  have hb := plain_facts hp
  have h := KingMath.keeps hf (by omega) (play_run n f d p r dr o s m fr t F L hp bits) hw (fun i hi hh => by
    have hc : F.contains (i : Int) = false := by
      unfold hon at hh
      simpa using hh
    have : rdB (king_Play.first n bits) (i : Int) = king_Play.start (rd bits (i : Int)) := by
      simp [rd_T52, king_Play.first, List.getD_eq_getElem?_getD, hi]
    show value (rdB (king_Play.first n bits) (i : Int)).f0 = w
    rw [this, hs i hi hc]
    rcases hw with rfl | rfl <;> rfl)
  intro i hi hc
  have := h i hi (by unfold hon; rw [hc]; rfl)
  dsimp only at this
  rw [value_id (at_range n f d p r dr o s m fr t F L bits _ hi)] at this
  rw [play_get n f d p r dr o s m fr t F L hp bits hi, if_neg (by rw [hc]; decide), this]
def few : Bool := decide (plain n f d p r dr o s m fr t = 0 ∧ F.length ≤ 20 ∧ ((List.range n.toNat).countP (fun (k : Nat) => F.contains (k : Int)) : Int) ≤ f)
theorem bad_count : KingMath.bad n.toNat (hon F) = (List.range n.toNat).countP (fun (k : Nat) => F.contains (k : Int)) := by
  unfold KingMath.bad hon
  congr 1
  funext k
  simp
theorem few_ev : Ev (fun k => bellwetherlaw14_few.f k n f d p r dr o s m fr t F) (few n f d p r dr o s m fr t F) := by
  refine Ev.congr (fun k => bellwetherlaw14_few.f.eq_1 ..) ?_
  refine Ev.bind (Ev.from 700 (fun k hk => ref_plain_at n f d p r dr o s m fr t hk)) ?_
  unfold few
  by_cases hp : plain n f d p r dr o s m fr t = 0
  · have hb := plain_facts hp
    refine Ev.pos hp ?_
    refine Ev.step (fun k => bellwetherlaw14_few.j0.eq_2 ..) ?_
    by_cases hl : F.length ≤ 20
    · refine Ev.neg (by simp; omega) ?_
      have key : ∀ (q i : Nat), i + q = n.toNat → Ev (fun k => bellwetherlaw14_few.l0 k F (((List.range i).countP (fun (k : Nat) => F.contains (k : Int)) : Nat) : Int) (i : Int) n f d p r dr o s m fr t) (decide ((((List.range n.toNat).countP (fun (k : Nat) => F.contains (k : Int)) : Nat) : Int) ≤ f)) := by
        intro q
        induction q with
        | zero =>
          intro i hi
          refine Ev.step (fun k => bellwetherlaw14_few.l0.eq_2 ..) ?_
          refine Ev.neg (by omega) (Ev.val ?_)
          rw [show i = n.toNat by omega]
        | succ q ih =>
          intro i hi
          have hc := List.countP_le_length (p := fun (k : Nat) => F.contains (k : Int)) (l := List.range i)
          rw [List.length_range] at hc
          have h := ih (i + 1) (by omega)
          rw [List.range_succ, List.countP_append, List.countP_singleton] at h
          refine Ev.step (fun k => bellwetherlaw14_few.l0.eq_2 ..) ?_
          refine Ev.pos (by omega) (Ev.bind (in_ev F (by omega) (i : Int)) ?_)
          by_cases hcc : F.contains (i : Int) = true
          · rw [if_pos hcc] at h
            refine Ev.pos hcc ?_
            rw [succ_w (by omega), succ_w (by omega)]
            exact h
          · rw [if_neg hcc] at h
            refine Ev.neg hcc ?_
            rw [succ_w (by omega)]
            exact h
      have := key n.toNat 0 (by omega)
      have e : (decide (plain n f d p r dr o s m fr t = 0 ∧ F.length ≤ 20 ∧ (((List.range n.toNat).countP (fun (k : Nat) => F.contains (k : Int)) : Nat) : Int) ≤ f)) = decide ((((List.range n.toNat).countP (fun (k : Nat) => F.contains (k : Int)) : Nat) : Int) ≤ f) :=
        decide_eq_decide.2 ⟨fun h => h.2.2, fun h => ⟨hp, hl, h⟩⟩
      rw [e]
      exact this
    · refine Ev.pos (by simp; omega) (Ev.val ?_)
      exact (decide_eq_false (fun h => hl h.2.1)).symm
  · refine Ev.neg hp (Ev.step (fun k => bellwetherlaw14_few.j0.eq_2 ..) (Ev.pos rfl (Ev.val ?_)))
    exact (decide_eq_false (fun h => hp h.1)).symm
end
end Go.Proofs.Ytfannnojhkkaiaa.KingLib
