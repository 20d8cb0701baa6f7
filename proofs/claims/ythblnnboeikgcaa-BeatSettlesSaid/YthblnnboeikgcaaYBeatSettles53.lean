import Derived.Test.YthblnnboeikgcaaYBeatSettles52
set_option linter.unusedVariables false
set_option linter.unusedSimpArgs false
set_option linter.unusedSectionVars false
namespace Go.Proofs.Ythblnnboeikgcaa.BeatLib
open Go.RowKit Go.Proofs.Ythblnnboeikgcaa.B Go.Proofs.YthblnnboeikgcaaW.PrintWords Go.Proofs.YthblnnboeikgcaaW.PrintMore Go.Proofs.Ythblnnboeikgcaa.ConfLib Go.Proofs.Ythblnnboeikgcaa.TallyLib Go.Proofs.Ythblnnboeikgcaa.KingLib Go.Proofs.Ythblnnboeikgcaa.VecLib Go.Proofs.Ythblnnboeikgcaa.PlanLib Go.Proofs.Ythblnnboeikgcaa.PipeLib
theorem rdT_range (g : Nat → ByteArray) {m i : Nat} (hi : i < m) : rdOf ByteArray.empty ((List.range m).map g) (i : Int) = g i := by
  simp [rdOf, List.getD_eq_getElem?_getD, hi]
theorem rdI_range (g : Nat → Int) {m i : Nat} (hi : i < m) : rd ((List.range m).map g) (i : Int) = g i := by
  simp [rd, List.getD_eq_getElem?_getD, hi]
theorem rdL_range (g : Nat → List ByteArray) {m i : Nat} (hi : i < m) : rd_L6 ((List.range m).map g) (i : Int) = g i := by
  simp [rd_L6, List.getD_eq_getElem?_getD, hi]
theorem set_range {α : Type} (g h : Nat → α) {m i : Nat} (hi : i < m) : ((List.range m).map (fun k => if k < i then g k else h k)).set i (g i) = (List.range m).map (fun k => if k < i + 1 then g k else h k) := by
  refine List.ext_getElem? (fun j => ?_)
  rw [List.getElem?_set]
  simp only [List.length_map, List.length_range]
  by_cases h1 : i = j
  · subst h1
    rw [if_pos rfl, if_pos hi, List.getElem?_map, List.getElem?_range hi]
    simp
  · rw [if_neg h1, List.getElem?_map, List.getElem?_map]
    by_cases h2 : j < m
    · rw [List.getElem?_range h2]
      simp only [Option.map_some]
      by_cases h3 : j < i
      · rw [if_pos h3, if_pos (by omega)]
      · rw [if_neg h3, if_neg (by omega)]
    · rw [List.getElem?_eq_none (by simpa using h2)]
      rfl
theorem if_all {α : Type} (g h : Nat → α) (m : Nat) : (List.range m).map (fun k => if k < m then g k else h k) = (List.range m).map g := List.map_congr_left (fun k hk => if_pos (List.mem_range.1 hk))
theorem if_none {α : Type} (g h : Nat → α) (m : Nat) : (List.range m).map (fun k => if k < 0 then g k else h k) = (List.range m).map h := List.map_congr_left (fun k hk => if_neg (Nat.not_lt_zero k))
theorem range_snoc {α : Type} (g : Nat → α) (m : Nat) : (List.range m).map g ++ [g m] = (List.range (m + 1)).map g := by rw [List.range_succ, List.map_append]; rfl
section
variable {n f d p r dr o s m fr : Int} {t : List Int} (PP : List ByteArray) (SS F : List Int) (LL : List ByteArray)
theorem lie_at (hp : plain n f d p r dr o s m fr t = 0) (hL : LL.length ≤ 1000) (q k i : Nat) (hq : q ≤ 3000) (hk : k < n.toNat) (hi : i < n.toNat) : l18Cluster_lie.f n f d p r dr o s m fr t PP SS F LL (wrap64 ((q : Int) - d)) (k : Int) (i : Int) = some (lieB n LL (q : Int) (k : Int) (i : Int)) := by
  have hb := plain_facts hp
  unfold l18Cluster_lie.f lieB
  by_cases h2 : (LL.length : Int) = 0
  · rw [if_pos h2, if_pos h2]
  · rw [if_neg h2, if_neg h2]
    have w1 : 0 ≤ (q : Int) * n ∧ (q : Int) * n ≤ 3000 * 13 := ⟨Int.mul_nonneg (by omega) (by omega), Int.mul_le_mul (by omega) (by omega) (by omega) (by omega)⟩
    have w2 : 0 ≤ (q : Int) * n * n ∧ (q : Int) * n * n ≤ 39000 * 13 := ⟨Int.mul_nonneg (by omega) (by omega), Int.mul_le_mul (by omega) (by omega) (by omega) (by omega)⟩
    have w3 : 0 ≤ (k : Int) * n ∧ (k : Int) * n ≤ 13 * 13 := ⟨Int.mul_nonneg (by omega) (by omega), Int.mul_le_mul (by omega) (by omega) (by omega) (by omega)⟩
    rw [ConfLib.wrap_small (n := (q : Int) - d) (by omega) (by omega), show (q : Int) - d + d = (q : Int) by omega, ConfLib.wrap_small (n := (q : Int)) (by omega) (by omega), ConfLib.wrap_small (n := (q : Int) * n) (by omega) (by omega), ConfLib.wrap_small (n := (q : Int) * n * n) (by omega) (by omega), ConfLib.wrap_small (n := (k : Int) * n) (by omega) (by omega), ConfLib.wrap_small (n := (q : Int) * n * n + (k : Int) * n) (by omega) (by omega), ConfLib.wrap_small (n := (q : Int) * n * n + (k : Int) * n + (i : Int)) (by omega) (by omega), Int.tmod_eq_emod_of_nonneg (by omega)]
    have g0 : 0 ≤ ((q : Int) * n * n + (k : Int) * n + (i : Int)) % (LL.length : Int) := Int.emod_nonneg _ (by omega)
    have g1 : ((q : Int) * n * n + (k : Int) * n + (i : Int)) % (LL.length : Int) < LL.length := Int.emod_lt_of_pos _ (by omega)
    rw [if_pos g0, if_pos g1]
def rowsB (n f d p r dr o s m fr : Int) (t : List Int) (PP : List ByteArray) (SS F : List Int) (LL : List ByteArray) (q : Nat) : List ByteArray := (List.range q).map (fun (u : Nat) => txt ((List.range n.toNat).map (fun (k : Nat) => endB n f d p r dr o s m fr t PP SS F LL u k)))
def toldB (n f d p r dr o s m fr : Int) (t : List Int) (PP : List ByteArray) (SS F : List Int) (LL : List ByteArray) (q : Nat) : List (List ByteArray) := (List.range q).map (fun (u : Nat) => (List.range n.toNat).map (fun (k : Nat) => tellV n f d p r dr o s m fr t (pipeB n f d p r dr o s m fr t PP SS F LL (u + 1) k)))
def pipesB (n f d p r dr o s m fr : Int) (t : List Int) (PP : List ByteArray) (SS F : List Int) (LL : List ByteArray) (q i : Nat) : List ByteArray := (List.range n.toNat).map (fun (k : Nat) => if k < i then pipeB n f d p r dr o s m fr t PP SS F LL (q + 1) k else pipeB n f d p r dr o s m fr t PP SS F LL q k)
def sincesB (n f d p r dr o s m fr : Int) (t : List Int) (PP : List ByteArray) (SS F : List Int) (LL : List ByteArray) (q i : Nat) : List Int := (List.range n.toNat).map (fun (k : Nat) => if k < i then sinceB n f d p r dr o s m fr t PP SS F LL (q + 1) k else sinceB n f d p r dr o s m fr t PP SS F LL q k)
theorem runs_l0 (hp : plain n f d p r dr o s m fr t = 0) (hF : F.length ≤ 1000) (hL : LL.length ≤ 1000) (T : Nat) (hT : T ≤ 2000) (w : Nat) : ∀ q : Nat, q + w = T → Ev (fun k => l18Cluster_runs.l0 k (T : Int) (toldB n f d p r dr o s m fr t PP SS F LL q) (rowsB n f d p r dr o s m fr t PP SS F LL q) (pipesB n f d p r dr o s m fr t PP SS F LL q 0) (sincesB n f d p r dr o s m fr t PP SS F LL q 0) (q : Int) n f d p r dr o s m fr t PP SS F LL) (rowsB n f d p r dr o s m fr t PP SS F LL T) := by
  have hb := plain_facts hp
  have sw : ∀ i : Nat, i ≤ 3000 → wrap64 ((i : Int) + 1) = ((i + 1 : Nat) : Int) := fun i hi => by rw [ConfLib.wrap_small (by omega) (by omega)]; rfl
  have sw := Sd.mk sw
  induction w with
  | zero =>
    intro q hq
    obtain rfl : q = T := by omega
    exact Ev.step (fun k => l18Cluster_runs.l0.eq_2 ..) (Ev.neg (by omega) (Ev.val rfl))
  | succ w ih =>
    intro q hq
    have go := ih (q + 1) (by omega)
    have mid : ∀ (q2 i : Nat), i + q2 = n.toNat → Ev (fun k => l18Cluster_runs.l1 k (T : Int) (toldB n f d p r dr o s m fr t PP SS F LL q) (rowsB n f d p r dr o s m fr t PP SS F LL q) (pipesB n f d p r dr o s m fr t PP SS F LL q i) (sincesB n f d p r dr o s m fr t PP SS F LL q i) (q : Int) ((List.range i).map (fun (k : Nat) => tellV n f d p r dr o s m fr t (pipeB n f d p r dr o s m fr t PP SS F LL (q + 1) k))) (txt ((List.range i).map (fun (k : Nat) => endB n f d p r dr o s m fr t PP SS F LL q k))) (i : Int) n f d p r dr o s m fr t PP SS F LL) (rowsB n f d p r dr o s m fr t PP SS F LL T) := by
      intro q2
      induction q2 with
      | zero =>
        intro i hi
        obtain rfl : i = n.toNat := by omega
        have h1 : (toldB n f d p r dr o s m fr t PP SS F LL q).length < 5864062014805 := Nat.lt_of_le_of_lt (m := 3000) (by simp [toldB]; omega) (by decide)
        have h2 : (rowsB n f d p r dr o s m fr t PP SS F LL q).length < 8796093022208 := Nat.lt_of_le_of_lt (m := 3000) (by simp [rowsB]; omega) (by decide)
        refine Ev.step (fun k => l18Cluster_runs.l1.eq_2 ..) (Ev.neg (by omega) (Ev.pos h1 (Ev.pos h2 ?_)))
        have e1 : toldB n f d p r dr o s m fr t PP SS F LL q ++ [(List.range n.toNat).map (fun (k : Nat) => tellV n f d p r dr o s m fr t (pipeB n f d p r dr o s m fr t PP SS F LL (q + 1) k))] = toldB n f d p r dr o s m fr t PP SS F LL (q + 1) := range_snoc (fun (u : Nat) => (List.range n.toNat).map (fun (k : Nat) => tellV n f d p r dr o s m fr t (pipeB n f d p r dr o s m fr t PP SS F LL (u + 1) k))) q
        have e2 : rowsB n f d p r dr o s m fr t PP SS F LL q ++ [txt ((List.range n.toNat).map (fun (k : Nat) => endB n f d p r dr o s m fr t PP SS F LL q k))] = rowsB n f d p r dr o s m fr t PP SS F LL (q + 1) := range_snoc (fun (u : Nat) => txt ((List.range n.toNat).map (fun (k : Nat) => endB n f d p r dr o s m fr t PP SS F LL u k))) q
        have e3 : pipesB n f d p r dr o s m fr t PP SS F LL q n.toNat = pipesB n f d p r dr o s m fr t PP SS F LL (q + 1) 0 := (if_all _ _ _).trans (if_none _ _ _).symm
        have e4 : sincesB n f d p r dr o s m fr t PP SS F LL q n.toNat = sincesB n f d p r dr o s m fr t PP SS F LL (q + 1) 0 := (if_all _ _ _).trans (if_none _ _ _).symm
        rw [e1, e2, e3, e4, sw.out q (by omega)]
        exact go
      | succ q2 ih2 =>
        intro i hi
        have go2 := ih2 (i + 1) (by omega)
        have hin : i < n.toNat := by omega
        have inner : ∀ (q3 j : Nat), j + q3 = n.toNat → Ev (fun k => l18Cluster_runs.l2 k (T : Int) (toldB n f d p r dr o s m fr t PP SS F LL q) (rowsB n f d p r dr o s m fr t PP SS F LL q) (pipesB n f d p r dr o s m fr t PP SS F LL q i) (sincesB n f d p r dr o s m fr t PP SS F LL q i) (q : Int) ((List.range i).map (fun (k : Nat) => tellV n f d p r dr o s m fr t (pipeB n f d p r dr o s m fr t PP SS F LL (q + 1) k))) (txt ((List.range i).map (fun (k : Nat) => endB n f d p r dr o s m fr t PP SS F LL q k))) (i : Int) ((List.range j).map (fun (k : Nat) => wordB n f d p r dr o s m fr t PP SS F LL q i k)) (j : Int) n f d p r dr o s m fr t PP SS F LL) (rowsB n f d p r dr o s m fr t PP SS F LL T) := by
          intro q3
          induction q3 with
          | zero =>
            intro j hj
            obtain rfl : j = n.toNat := by omega
            have g1 : rdOf ByteArray.empty (pipesB n f d p r dr o s m fr t PP SS F LL q i) (i : Int) = pipeB n f d p r dr o s m fr t PP SS F LL q i := (rdT_range _ hin).trans (if_neg (Nat.lt_irrefl i))
            have g2 : rd (sincesB n f d p r dr o s m fr t PP SS F LL q i) (i : Int) = sinceB n f d p r dr o s m fr t PP SS F LL q i := (rdI_range _ hin).trans (if_neg (Nat.lt_irrefl i))
            have g3 : (pipesB n f d p r dr o s m fr t PP SS F LL q i).length = n.toNat := by simp [pipesB]
            have g4 : (sincesB n f d p r dr o s m fr t PP SS F LL q i).length = n.toNat := by simp [sincesB]
            have g5 := set_range (fun k => pipeB n f d p r dr o s m fr t PP SS F LL (q + 1) k) (fun k => pipeB n f d p r dr o s m fr t PP SS F LL q k) hin
            have g6 := set_range (fun k => sinceB n f d p r dr o s m fr t PP SS F LL (q + 1) k) (fun k => sinceB n f d p r dr o s m fr t PP SS F LL q k) hin
            have g7 := range_snoc (fun (k : Nat) => tellV n f d p r dr o s m fr t (pipeB n f d p r dr o s m fr t PP SS F LL (q + 1) k)) i
            have g8 : ((List.range i).map (fun (k : Nat) => tellV n f d p r dr o s m fr t (pipeB n f d p r dr o s m fr t PP SS F LL (q + 1) k))).length < 8796093022208 := Nat.lt_of_le_of_lt (m := 3000) (by simp; omega) (by decide)
            have g9 : (txt ((List.range i).map (fun (k : Nat) => endB n f d p r dr o s m fr t PP SS F LL q k))).size + 1 ≤ 9223372036854775807 := by
              rw [txt_size, List.length_map, List.length_range]
              omega
            have st := step_ev n f d p r dr o s m fr t (pipeB n f d p r dr o s m fr t PP SS F LL q i) (sinceB n f d p r dr o s m fr t PP SS F LL q i) 0 (heardB n f d p r dr o s m fr t PP SS F LL q i) (by rw [heard_len]; omega)
            rw [stB_step] at st
            have g5 : (pipesB n f d p r dr o s m fr t PP SS F LL q i).set i (pipeB n f d p r dr o s m fr t PP SS F LL (q + 1) i) = pipesB n f d p r dr o s m fr t PP SS F LL q (i + 1) := g5
            have g6 : (sincesB n f d p r dr o s m fr t PP SS F LL q i).set i (sinceB n f d p r dr o s m fr t PP SS F LL (q + 1) i) = sincesB n f d p r dr o s m fr t PP SS F LL q (i + 1) := g6
            have o1 : txt [1] = (⟨#[49]⟩ : ByteArray) := rfl
            have o0 : txt [0] = (⟨#[48]⟩ : ByteArray) := rfl
            refine Ev.step (fun k => l18Cluster_runs.l2.eq_2 ..) (Ev.neg (by omega) (Ev.pos (by omega) (Ev.pos (by omega) (Ev.pos (by omega) ?_))))
            rw [g1, g2]
            refine Ev.bind st ?_
            refine Ev.some_ rfl (Ev.some_ rfl (Ev.bind (Ev.from 10 (fun k hk => tell_at n f d p r dr o s m fr t _ hk)) (Ev.pos g8 (Ev.some_ rfl ?_))))
            dsimp only
            rw [Int.toNat_natCast, g5, g6, g7, sw.out i (by omega)]
            rw [← range_snoc (fun (k : Nat) => endB n f d p r dr o s m fr t PP SS F LL q k), txt_append] at go2
            rcases end_bit PP SS F LL (n := n) (f := f) (d := d) (p := p) (r := r) (dr := dr) (o := o) (s := s) (m := m) (fr := fr) (t := t) q i with he | he
            · rw [he, o0] at go2
              refine Ev.neg (by rw [he]; decide) (Ev.pos g9 ?_)
              exact go2
            · rw [he, o1] at go2
              refine Ev.pos (by rw [he]; decide) (Ev.pos g9 ?_)
              exact go2
          | succ q3 ih3 =>
            intro j hj
            have go3 := ih3 (j + 1) (by omega)
            have hjn : j < n.toNat := by omega
            have g8 : ((List.range j).map (fun (k : Nat) => wordB n f d p r dr o s m fr t PP SS F LL q i k)).length < 8796093022208 := Nat.lt_of_le_of_lt (m := 3000) (by simp; omega) (by decide)
            rw [← range_snoc, ← sw.out j (by omega)] at go3
            refine Ev.step (fun k => l18Cluster_runs.l2.eq_2 ..) (Ev.pos (by omega) ?_)
            by_cases hqd : (q : Int) < d
            · refine Ev.pos hqd (Ev.some_ (lie_at PP SS F LL hp hL q j i (by omega) hjn hin) (Ev.pos g8 ?_))
              unfold wordB at go3 ⊢
              rw [if_pos hqd] at go3
              exact go3
            · refine Ev.neg hqd (Ev.bind (in_ev F (by omega) (j : Int)) ?_)
              by_cases hc : F.contains (j : Int) = true
              · refine Ev.pos hc (Ev.some_ (lie_at PP SS F LL hp hL q j i (by omega) hjn hin) (Ev.pos g8 ?_))
                unfold wordB at go3 ⊢
                rw [if_neg hqd, if_pos hc] at go3
                exact go3
              · obtain ⟨u, hu⟩ : ∃ u : Nat, (q : Int) - d = (u : Int) := ⟨((q : Int) - d).toNat, by omega⟩
                have hu2 : q - (d.toNat - 1) = u + 1 := by omega
                have hrow : rd_L6 (toldB n f d p r dr o s m fr t PP SS F LL q) (u : Int) = (List.range n.toNat).map (fun (k : Nat) => tellV n f d p r dr o s m fr t (pipeB n f d p r dr o s m fr t PP SS F LL (u + 1) k)) := rdL_range _ (by omega)
                have hlen : (toldB n f d p r dr o s m fr t PP SS F LL q).length = q := by simp [toldB]
                refine Ev.neg hc ?_
                rw [ConfLib.wrap_small (n := (q : Int) - d) (by omega) (by omega), hu, hrow]
                refine Ev.pos (by omega) (Ev.pos (by omega) (Ev.pos (by omega) (Ev.pos (by simp; omega) (Ev.pos g8 ?_))))
                rw [rdT_range _ hjn]
                have hw : wordB n f d p r dr o s m fr t PP SS F LL q i j = tellV n f d p r dr o s m fr t (pipeB n f d p r dr o s m fr t PP SS F LL (u + 1) j) := by
                  unfold wordB
                  rw [if_neg hqd, if_neg hc, hu2]
                rw [hw] at go3
                exact go3
        exact Ev.step (fun k => l18Cluster_runs.l1.eq_2 ..) (Ev.pos (by omega) (inner n.toNat 0 (by omega)))
    exact Ev.step (fun k => l18Cluster_runs.l0.eq_2 ..) (Ev.pos (by omega) (mid n.toNat 0 (by omega)))
theorem list_rd (l : List ByteArray) : (List.range l.length).map (fun (k : Nat) => rdT l (k : Int)) = l := by
  refine List.ext_getElem (by simp) (fun i h1 h2 => ?_)
  simp [rdT, rdOf, List.getD_eq_getElem?_getD, h2]
theorem list_rdI (l : List Int) : (List.range l.length).map (fun (k : Nat) => rd l (k : Int)) = l := by
  refine List.ext_getElem (by simp) (fun i h1 h2 => ?_)
  simp [rd, List.getD_eq_getElem?_getD, h2]
theorem runs_ev (hp : plain n f d p r dr o s m fr t = 0) (hF : F.length ≤ 1000) (hL : LL.length ≤ 1000) (hP : (PP.length : Int) = n) (hS : (SS.length : Int) = n) (T : Nat) (hT : T ≤ 2000) : Ev (fun k => l18Cluster_runs.f k n f d p r dr o s m fr t PP SS F LL (T : Int)) (rowsB n f d p r dr o s m fr t PP SS F LL T) := by
  have hb := plain_facts hp
  have h1 : ([] : List ByteArray).length + PP.length < 8796093022208 := Nat.lt_of_le_of_lt (m := 13) (by show 0 + PP.length ≤ 13; omega) (by decide)
  have h2 : ([] : List Int).length + SS.length < 17592186044416 := Nat.lt_of_le_of_lt (m := 13) (by show 0 + SS.length ≤ 13; omega) (by decide)
  refine Ev.congr (fun k => l18Cluster_runs.f.eq_1 ..) (Ev.pos h1 (Ev.pos h2 ?_))
  have e1 : ([] : List ByteArray) ++ PP = pipesB n f d p r dr o s m fr t PP SS F LL 0 0 := by
    unfold pipesB
    rw [if_none, show n.toNat = PP.length by omega]
    refine ((list_rd PP).symm.trans (List.map_congr_left (fun k _ => ?_)))
    show _ = (stB n f d p r dr o s m fr t PP SS F LL 0 k).1
    rw [stB]
  have e2 : ([] : List Int) ++ SS = sincesB n f d p r dr o s m fr t PP SS F LL 0 0 := by
    unfold sincesB
    rw [if_none, show n.toNat = SS.length by omega]
    refine ((list_rdI SS).symm.trans (List.map_congr_left (fun k _ => ?_)))
    show _ = (stB n f d p r dr o s m fr t PP SS F LL 0 k).2
    rw [stB]
  rw [e1, e2]
  exact runs_l0 PP SS F LL hp hF hL T hT T 0 (by omega)
end
end Go.Proofs.Ythblnnboeikgcaa.BeatLib
