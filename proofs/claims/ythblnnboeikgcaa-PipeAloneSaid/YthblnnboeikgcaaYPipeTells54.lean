import Derived.Test.YthblnnboeikgcaaYPipeTells53
import Derived.Test.YthblnnboeikgcaaYPipeTells50
set_option linter.unusedVariables false
set_option linter.unusedSimpArgs false
namespace Go.Proofs.Ythblnnboeikgcaa.pipeAlone
open Go.RowKit Go.Proofs.Ythblnnboeikgcaa.P Go.Proofs.YthblnnboeikgcaaW.PrintWords Go.Proofs.Ythblnnboeikgcaa.ConfLib Go.Proofs.Ythblnnboeikgcaa.KingLib Go.Proofs.Ythblnnboeikgcaa.VecLib Go.Proofs.Ythblnnboeikgcaa.PipeLib
theorem known : Ev (fun k => l17known.f k) true := Ev.of l17known.mono (show l17known.f 1000 = some true by decide +kernel)
theorem last : Ev (fun k => (l17known.f k).bind fun t => some t) true := Ev.bind known (Ev.val rfl)
section
variable (n f d p r dr o s m fr : Int) (t : List Int)
theorem hears_of (hp : plain n f d p r dr o s m fr t = 0) (i : Nat) (hi : ((i + 1 : Nat) : Int) ≤ ConfLib.length n f d p r dr o s m fr t) :
    (¬ ((i + 1 : Nat) : Int) % d = 0 → PlanLib.hears n f d p r dr o s m fr t ((i + 1 : Nat) : Int) < 0) ∧
    (((i + 1 : Nat) : Int) % d = 0 → PlanLib.hears n f d p r dr o s m fr t ((i + 1 : Nat) : Int) = ((i + 1 : Nat) : Int) / d - 1 ∧ 0 ≤ ((i + 1 : Nat) : Int) / d - 1 ∧ ((i + 1 : Nat) : Int) / d - 1 < ConfLib.rounds n f d p r dr o s m fr t) := by
  have hf := plain_facts hp
  have hd : d = 1 ∨ d = 2 ∨ d = 3 ∨ d = 4 := by omega
  have hr : ConfLib.rounds n f d p r dr o s m fr t = 3 * (f + 1) := by unfold ConfLib.rounds; rw [if_pos hp]
  have hl : ConfLib.length n f d p r dr o s m fr t = 3 * (f + 1) * d := by unfold ConfLib.length; rw [if_pos hp]
  rw [hl] at hi
  rw [hr]
  unfold PlanLib.hears PlanLib.ex
  rw [if_pos hp]
  clear hl hr hp
  have hy : 1 ≤ ((i + 1 : Nat) : Int) := by omega
  generalize ((i + 1 : Nat) : Int) = y at hi hy ⊢
  rcases hd with rfl | rfl | rfl | rfl
  all_goals
    refine ⟨fun h => ?_, fun h => ?_⟩
    · repeat' split
      all_goals omega
    · repeat' split
      all_goals (first | omega | (refine ⟨?_, ?_, ?_⟩ <;> omega))
def votesOf (VS : List ByteArray) (x : Nat) : List Int := VS.map (fun z => vote z (x : Int))
def bossOf (VS : List ByteArray) (x : Nat) : Int := vote (VS.getD (x / 3) ByteArray.empty) (x : Int)
def bitV (VS : List ByteArray) (i : Nat) (v : Int) (b : Bool) : Int × Bool :=
  if ((i + 1 : Nat) : Int) % d = 0 then KingLib.step n f d p r dr o s m fr t ((((i + 1 : Nat) : Int) / d - 1).toNat : Int) v b (bossOf VS (((i + 1 : Nat) : Int) / d - 1).toNat) (votesOf VS (((i + 1 : Nat) : Int) / d - 1).toNat) else (v, b)
theorem bitV_range (VS : List ByteArray) (i : Nat) {v : Int} (b : Bool) (hv : 0 ≤ v ∧ v ≤ 2) : 0 ≤ (bitV n f d p r dr o s m fr t VS i v b).1 ∧ (bitV n f d p r dr o s m fr t VS i v b).1 ≤ 2 := by
  unfold bitV
  split
  · exact step_range ..
  · exact hv
theorem age_bit (hp : plain n f d p r dr o s m fr t = 0) (VS : List ByteArray) (i : Nat) (hi : ((i + 1 : Nat) : Int) ≤ ConfLib.length n f d p r dr o s m fr t) {v : Int} (b : Bool) (hv : 0 ≤ v ∧ v ≤ 2) :
    ageV n f d p r dr o s m fr t VS (i + 1) (48 + code v b) = 48 + code (bitV n f d p r dr o s m fr t VS i v b).1 (bitV n f d p r dr o s m fr t VS i v b).2 := by
  obtain ⟨h1, h2⟩ := hears_of n f d p r dr o s m fr t hp i hi
  have hc := val_code v b hv
  unfold ageV bitV
  by_cases h : ((i + 1 : Nat) : Int) % d = 0
  · obtain ⟨e, e0, _⟩ := h2 h
    rw [if_pos h, e, if_neg (by omega)]
    unfold hearV newCode bossOf votesOf
    rw [hc.1, hc.2]
  · rw [if_neg h, if_pos (h1 h)]
end
theorem pure : Pure := by
  rintro ⟨n, f, d, p, r, dr, o, s, m, fr, t⟩ a bit VSS _ _ _ _
  refine Ev.rounds (r := true) ?_
  show Ev (fun k => l17PipeAlone.f k n f d p r dr o s m fr t a bit VSS) true
  refine Ev.congr (fun k => l17PipeAlone.f.eq_1 ..) (Ev.bind (Ev.from 700 (fun k hk => ref_plain_at n f d p r dr o s m fr t hk)) ?_)
  have out : Ev (fun k => l17PipeAlone.j0 k a bit VSS true n f d p r dr o s m fr t) true := Ev.step (fun k => l17PipeAlone.j0.eq_2 ..) (Ev.pos rfl last)
  by_cases hp : plain n f d p r dr o s m fr t = 0
  case neg => exact Ev.neg hp out
  refine Ev.pos hp ?_
  by_cases h1 : (a.size : Int) > 100
  · exact Ev.pos h1 out
  refine Ev.neg h1 (Ev.bind (Ev.from 700 (fun k hk => ref_length_at n f d p r dr o s m fr t hk)) ?_)
  by_cases h2 : (VSS.length : Int) = ConfLib.length n f d p r dr o s m fr t
  case neg =>
    rw [show ((VSS.length : Int) != ConfLib.length n f d p r dr o s m fr t) = true from bne_iff_ne.2 h2]
    exact out
  rw [show ((VSS.length : Int) != ConfLib.length n f d p r dr o s m fr t) = false from bne_eq_false_iff_eq.2 h2]
  have hf := plain_facts hp
  have hlf := length_facts n f d p r dr o s m fr t
  have h3 := len_pos n f d p r dr o s m fr t hp
  have hr := PlanLib.rounds_facts (n := n) (f := f) (d := d) (p := p) (r := r) (dr := dr) (o := o) (s := s) (m := m) (fr := fr) (t := t)
  refine Ev.step (fun k => l17PipeAlone.j0.eq_2 ..) (Ev.neg (by decide) (Ev.some_ (ref_start_at bit) ?_))
  refine Ev.bind (Ev.from 10 (fun k hk => begin_at n f d p r dr o s m fr t a bit hk)) ?_
  have loop : ∀ (q i : Nat) (now : ByteArray) (e v : Int) (b : Bool), i + q = VSS.length → (now.size : Int) = ConfLib.length n f d p r dr o s m fr t → (i < VSS.length → bt now (i : Int) = 48 + code v b) → (0 ≤ v ∧ v ≤ 2) → (i = VSS.length → (e = 1 ↔ v = 1)) →
      Ev (fun k => l17PipeAlone.l0 k VSS now e (i : Int) n f d p r dr o s m fr t v b) true := by
    intro q
    induction q with
    | zero =>
      intro i now e v b hi _ _ _ he
      have he := he (by omega)
      refine Ev.step (fun k => l17PipeAlone.l0.eq_2 ..) (Ev.neg (by omega) (Ev.pos ?_ last))
      rw [beq_iff_eq, Bool.eq_iff_iff, beq_iff_eq, beq_iff_eq]
      exact he
    | succ q ih =>
      intro i now e v b hi hsz hbt hv _
      have hlt : i < VSS.length := by omega
      have hbt := hbt hlt
      have hrd : rd_L8 VSS (i : Int) = VSS[i] := by simp [rd_L8, List.getD_eq_getElem?_getD, hlt]
      have hw : Sd (wrap64 ((i : Int) + 1) = ((i + 1 : Nat) : Int)) := ⟨succ_w (by omega)⟩
      refine Ev.step (fun k => l17PipeAlone.l0.eq_2 ..) (Ev.pos (by omega) (Ev.pos (by omega) ?_))
      rw [hrd]
      generalize hVS : VSS[i] = VS
      rw [hVS] at hrd
      by_cases h20 : (VS.length : Int) > 20
      · exact Ev.pos h20 last
      refine Ev.neg h20 (Ev.neg (by omega) ?_)
      rw [hw.out]
      -- behind the bit
      have tail : Ev (fun k => l17PipeAlone.j3 k VSS now (i : Int) n f d p r dr o s m fr t (bitV n f d p r dr o s m fr t VS i v b).1 (bitV n f d p r dr o s m fr t VS i v b).2) true := by
        have hab := age_bit n f d p r dr o s m fr t hp VS i (by omega) b hv
        have hvr := bitV_range n f d p r dr o s m fr t VS i b hv
        have hs := PipeLib.move_size n f d p r dr o s m fr t hp VS now
        have hb := fun h => move_bt n f d p r dr o s m fr t hp VS now hsz i h
        have hb2 := fun h => move_end n f d p r dr o s m fr t hp VS now hsz i h
        have mv := move_ev n f d p r dr o s m fr t VS (by omega) now
        rw [hbt, hab] at hb hb2
        generalize bitV n f d p r dr o s m fr t VS i v b = B at hab hvr hb hb2 ⊢
        have hvc := val_code B.1 B.2 hvr
        have hcr := code_range B.1 B.2
        rw [hvc.1] at hb2
        generalize moveV n f d p r dr o s m fr t VS now = P at hs hb hb2 mv
        refine Ev.step (fun k => l17PipeAlone.j3.eq_2 ..) (Ev.pos (by omega) (Ev.pos (by omega) ?_))
        rw [hrd]
        refine Ev.bind mv (Ev.pos (by omega) ?_)
        rw [hw.out]
        by_cases hn : i + 1 < VSS.length
        · have hb := hb (by omega)
          refine Ev.pos (by omega) (Ev.pos (by omega) (Ev.pos (by omega) (Ev.some_ (ref_code_at _ _) (Ev.pos ?_ ?_))))
          · rw [hb]
            omega
          · exact ih (i + 1) P.1 P.2 B.1 B.2 (by omega) hs (fun _ => hb) hvr (fun h => absurd h (by omega))
        · have hb2 := hb2 (by omega)
          refine Ev.neg (by omega) (ih (i + 1) P.1 P.2 B.1 B.2 (by omega) hs (fun h => absurd h hn) hvr (fun _ => ?_))
          rw [hb2]
          split
          · exact ⟨fun _ => ‹_›, fun _ => rfl⟩
          · rename_i h
            exact ⟨fun h9 => absurd h9 (by decide), fun h9 => absurd h9 h⟩
      obtain ⟨q1, q2⟩ := hears_of n f d p r dr o s m fr t hp i (by omega)
      rw [Int.tmod_eq_emod_of_nonneg (by omega)]
      by_cases hm : ((i + 1 : Nat) : Int) % d = 0
      case neg =>
        unfold bitV at tail
        rw [if_neg hm] at tail
        exact Ev.neg hm tail
      refine Ev.pos hm ?_
      obtain ⟨_, hx0, hx1⟩ := q2 hm
      unfold bitV at tail
      rw [if_pos hm] at tail
      rw [Int.tdiv_eq_ediv_of_nonneg (by omega)]
      clear q1 q2 hm
      have hdiv : ((i + 1 : Nat) : Int) / d ≤ 20 := by omega
      rw [ConfLib.wrap_small (n := ((i + 1 : Nat) : Int) / d) (by omega) (by omega), ConfLib.wrap_small (n := ((i + 1 : Nat) : Int) / d - 1) (by omega) (by omega)]
      clear hdiv
      obtain ⟨x, hx⟩ := Int.eq_ofNat_of_zero_le hx0
      rw [hx] at tail hx1 ⊢
      rw [Int.toNat_natCast] at tail
      have hvl : (votesOf VS x).length = VS.length := by simp [votesOf]
      have votes : ∀ (q2 j : Nat), j + q2 = VS.length → Ev (fun k => l17PipeAlone.l1 k VSS now (i : Int) (x : Int) ((votesOf VS x).take j) (j : Int) n f d p r dr o s m fr t v b) true := by
        intro q2
        induction q2 with
        | zero =>
          intro j hj
          refine Ev.step (fun k => l17PipeAlone.l1.eq_2 ..) (Ev.pos (by omega) (Ev.pos (by omega) ?_))
          rw [hrd]
          refine Ev.neg (by omega) ?_
          rw [List.take_of_length_le (by omega), Int.tdiv_eq_ediv_of_nonneg (by omega), ConfLib.wrap_small (n := (x : Int) / 3) (by omega) (by omega)]
          have hst : ∀ boss : Int, boss = bossOf VS x → Ev (fun k => (r14Step.f k n f d p r dr o s m fr t (x : Int) v b boss (votesOf VS x)).bind fun bt350 => l17PipeAlone.j3 k VSS now (i : Int) n f d p r dr o s m fr t bt350.1 bt350.2) true := by
            intro boss hb
            rw [hb]
            exact Ev.bind (Ev.from 1010 (fun k hk => ref_step_at n f d p r dr o s m fr t (x : Int) v b _ (votesOf VS x) (by omega) hk)) tail
          by_cases hb : x / 3 < VS.length
          · refine Ev.pos (by omega) (Ev.pos (by omega) (hst _ ?_))
            rw [show (x : Int) / 3 = ((x / 3 : Nat) : Int) by omega]
            unfold rd votesOf bossOf
            rw [Int.toNat_natCast]
            simp [List.getD_eq_getElem?_getD, hb]
          · refine Ev.neg (by omega) (hst _ ?_)
            unfold bossOf
            rw [show VS.getD (x / 3) ByteArray.empty = ByteArray.empty by simp [List.getD_eq_getElem?_getD, hb], vote_empty]
        | succ q2 ih2 =>
          intro j hj
          have hj2 : j < VS.length := by omega
          have go := ih2 (j + 1) (by omega)
          have hs2 : (votesOf VS x).take j ++ [vote VS[j] (x : Int)] = (votesOf VS x).take (j + 1) := by
            rw [List.take_succ_eq_append_getElem (by rw [hvl]; exact hj2)]
            simp [votesOf]
          rw [← hs2, ← succ_w (by omega)] at go
          refine Ev.step (fun k => l17PipeAlone.l1.eq_2 ..) (Ev.pos (by omega) (Ev.pos (by omega) ?_))
          rw [hrd]
          refine Ev.pos (by omega) (Ev.pos (by omega) ?_)
          rw [rdOf_at hj2]
          refine Ev.some_ (ref_vote_at _ x) (Ev.pos ?_ go)
          rw [List.length_take]
          omega
      exact votes VS.length 0 (by omega)
  have hw0 := well_size n f d p r dr o s m fr t a
  have hst : 0 ≤ (KingLib.start bit).1 ∧ (KingLib.start bit).1 ≤ 2 := by
    unfold KingLib.start
    split <;> exact ⟨by decide, by decide⟩
  have hcr := code_range (KingLib.start bit).1 (KingLib.start bit).2
  have hbs : (beginV n f d p r dr o s m fr t a bit).size = (well n f d p r dr o s m fr t a).size := by
    unfold beginV
    rw [if_pos hp, Bytes.size_list, put_list, List.length_set]
    exact data_length _
  have hb0 : bt (beginV n f d p r dr o s m fr t a bit) ((0 : Nat) : Int) = 48 + code (KingLib.start bit).1 (KingLib.start bit).2 := by
    have e : beginV n f d p r dr o s m fr t a bit = strOfNums ((pipe_sound.nums (well n f d p r dr o s m fr t a)).set 0 (48 + code (KingLib.start bit).1 (KingLib.start bit).2)) := by
      unfold beginV
      rw [if_pos hp]
      rfl
    have hl : 0 < (pipe_sound.nums (well n f d p r dr o s m fr t a)).length := by rw [pipe_sound.nums_len]; omega
    have hg : ((pipe_sound.nums (well n f d p r dr o s m fr t a)).set 0 (48 + code (KingLib.start bit).1 (KingLib.start bit).2)).getD 0 0 = 48 + code (KingLib.start bit).1 (KingLib.start bit).2 := by
      rw [List.getD_eq_getElem?_getD, List.getElem?_set_self hl]
      rfl
    rw [e, nums_bt (by rw [List.length_set]; exact hl) (by rw [hg]; omega) (by rw [hg]; omega), hg]
  exact loop VSS.length 0 _ (-1) _ _ (by omega) (by rw [hbs]; exact hw0) (fun _ => hb0) hst (fun h => absurd h (by omega))
end Go.Proofs.Ythblnnboeikgcaa.pipeAlone
