import Derived.Test.YthblnnboeikgcaaYAgreeTogether52
set_option linter.unusedVariables false
set_option linter.unusedSimpArgs false
set_option linter.unusedSectionVars false
namespace Go.Proofs.Ythblnnboeikgcaa.AgreeLib
open Go.RowKit Go.Proofs.Ythblnnboeikgcaa.X Go.Proofs.YthblnnboeikgcaaW.PrintWords Go.Proofs.YthblnnboeikgcaaW.PrintMore Go.Proofs.Ythblnnboeikgcaa.ConfLib Go.Proofs.Ythblnnboeikgcaa.TallyLib Go.Proofs.Ythblnnboeikgcaa.KingLib Go.Proofs.Ythblnnboeikgcaa.VecLib Go.Proofs.Ythblnnboeikgcaa.PlanLib
def tup (q : Packet) : ByteArray × Int × ByteArray × Int × Int × ByteArray := (q.f0, q.f1, q.f2, q.f3, q.f4, q.f5)
theorem untup (q : Packet) : (⟨(tup q).1, (tup q).2.1, (tup q).2.2.1, (tup q).2.2.2.1, (tup q).2.2.2.2.1, (tup q).2.2.2.2.2⟩ : Packet) = q := rfl
section
variable {n f d p r dr o s m fr : Int} {t : List Int} (nums : List Int) (saw : List ByteArray) (F : List Int) (L : List Packet)
theorem packet_ev (hp : plain n f d p r dr o s m fr t = 0) (hF : F.length ≤ 1000) (hL : L.length ≤ 1000) (T : List (List Packet)) (u : Int) (hu : -10 ≤ u ∧ u ≤ 60) (k i : Nat) (hk : k < n.toNat) (hi : i < n.toNat) (hT : 0 ≤ u → u < (T.length : Int) ∧ (k : Int) < ((rd_L9 T u).length : Int)) :
    Ev (fun q => l19Cluster_packet.f q n f d p r dr o s m fr t nums saw F L T u (k : Int) (i : Int)) (tup (pk n F L T u (k : Int) (i : Int))) := by
  have hb := plain_facts hp
  refine Ev.congr (fun q => l19Cluster_packet.f.eq_1 ..) ?_
  unfold pk
  by_cases h1 : u < 0
  · refine Ev.pos h1 (Ev.val ?_)
    rw [if_pos h1]
    rfl
  refine Ev.neg h1 (Ev.bind (in_ev F (by omega) (k : Int)) ?_)
  rw [if_neg h1]
  by_cases hc : F.contains (k : Int) = true
  · refine Ev.pos hc ?_
    rw [if_pos hc]
    unfold lie
    by_cases h2 : L.length = 0
    · refine Ev.pos (by omega) (Ev.val ?_)
      rw [if_pos h2]
      rfl
    · refine Ev.neg (by omega) ?_
      rw [if_neg h2]
      have w1 : 0 ≤ u * n ∧ u * n ≤ 60 * 13 := ⟨Int.mul_nonneg (by omega) (by omega), Int.mul_le_mul (by omega) (by omega) (by omega) (by omega)⟩
      have w2 : 0 ≤ (u * n + (k : Int)) * n ∧ (u * n + (k : Int)) * n ≤ 800 * 13 := ⟨Int.mul_nonneg (by omega) (by omega), Int.mul_le_mul (by omega) (by omega) (by omega) (by omega)⟩
      rw [ConfLib.wrap_small (n := u * n) (by omega) (by omega), ConfLib.wrap_small (n := u * n + (k : Int)) (by omega) (by omega), ConfLib.wrap_small (n := (u * n + (k : Int)) * n) (by omega) (by omega), ConfLib.wrap_small (n := (u * n + (k : Int)) * n + (i : Int)) (by omega) (by omega), Int.tmod_eq_emod_of_nonneg (by omega)]
      have g0 : 0 ≤ ((u * n + (k : Int)) * n + (i : Int)) % (L.length : Int) := Int.emod_nonneg _ (by omega)
      have g1 : ((u * n + (k : Int)) * n + (i : Int)) % (L.length : Int) < L.length := Int.emod_lt_of_pos _ (by omega)
      exact Ev.pos g0 (Ev.pos g1 (Ev.val rfl))
  · refine Ev.neg hc ?_
    rw [if_neg hc]
    have hT := hT (by omega)
    exact Ev.pos (by omega) (Ev.pos hT.1 (Ev.pos (by omega) (Ev.pos hT.2 (Ev.val rfl))))
theorem row_ev (A : List Now) (hA : A.length ≤ 1000) (h : ∀ q ∈ A, (Lit.int .i64 q.f0).wf = true ∧ q.f1.size ≤ 1000) : Ev (fun k => l19Cluster_row.f k n f d p r dr o s m fr t nums saw F L A) (A.map (told n f d p r dr o s m fr t)) := by
  have hl : (A.map (told n f d p r dr o s m fr t)).length = A.length := List.length_map ..
  have key : ∀ (q i : Nat), i + q = A.length → Ev (fun k => l19Cluster_row.l0 k A ((A.map (told n f d p r dr o s m fr t)).take i) (i : Int) n f d p r dr o s m fr t nums saw F L) (A.map (told n f d p r dr o s m fr t)) := by
    intro q
    induction q with
    | zero =>
      intro i hi
      refine Ev.step (fun k => l19Cluster_row.l0.eq_2 ..) (Ev.neg (by omega) (Ev.val ?_))
      rw [List.take_of_length_le (by omega)]
    | succ q ih =>
      intro i hi
      have hget : rdN A (i : Int) = A[i]'(by omega) := by simp [rd_T26, List.getD_eq_getElem?_getD, show i < A.length by omega]
      have hq := h (A[i]'(by omega)) (List.getElem_mem _)
      have hg : (A.map (told n f d p r dr o s m fr t)).take i ++ [told n f d p r dr o s m fr t (rdN A (i : Int))] = (A.map (told n f d p r dr o s m fr t)).take (i + 1) := by
        rw [List.take_succ_eq_append_getElem (by omega), hget, List.getElem_map]
      have go := ih (i + 1) (by omega)
      rw [← hg, ← succ_w (by omega)] at go
      rw [← hget] at hq
      have hr : ((A.map (told n f d p r dr o s m fr t)).take i).length < 1954687338268 := Nat.lt_of_le_of_lt (m := 1000) (by rw [List.length_take]; omega) (by decide)
      exact Ev.step (fun k => l19Cluster_row.l0.eq_2 ..) (Ev.pos (by omega) (Ev.pos (by omega) (Ev.bind (tell_ev n f d p r dr o s m fr t _ hq.1 _ hq.2) (Ev.pos hr go))))
  refine Ev.congr (fun k => l19Cluster_row.f.eq_1 ..) ?_
  exact key A.length 0 (by omega)
theorem len_range (hp : plain n f d p r dr o s m fr t = 0) : 3 ≤ 3 * (f + 1) * d ∧ 3 * (f + 1) * d ≤ 60 := by
  have hb := plain_facts hp
  rcases d_cases hp with rfl | rfl | rfl | rfl <;> omega
theorem st_fine (hp : plain n f d p r dr o s m fr t = 0) (q i : Nat) : (st n f d p r dr o s m fr t nums saw F L q i).f0 = (q : Int) ∧ (st n f d p r dr o s m fr t nums saw F L q i).f1.size ≤ 1000 := by
  have hb := plain_facts hp
  unfold st
  split
  · refine ⟨rfl, ?_⟩
    show (NW n f d p r dr o s m fr t nums saw F L (q / d.toNat) i).size ≤ 1000
    rw [now_size nums saw F L hp]
    omega
  · exact ⟨rfl, by show (⟨#[]⟩ : ByteArray).size ≤ 1000; decide⟩
theorem rowA_ev (hp : plain n f d p r dr o s m fr t = 0) (q : Nat) (hq : q ≤ 1000) : Ev (fun k => l19Cluster_row.f k n f d p r dr o s m fr t nums saw F L (allA n f d p r dr o s m fr t nums saw F L q)) (rowA n f d p r dr o s m fr t nums saw F L q) := by
  have hb := plain_facts hp
  refine row_ev nums saw F L _ (by unfold allA; rw [List.length_map, List.length_range]; omega) (fun z hz => ?_)
  unfold allA at hz
  obtain ⟨i, _, rfl⟩ := List.mem_map.1 hz
  obtain ⟨h1, h2⟩ := st_fine nums saw F L hp q i
  exact ⟨by rw [h1]; exact WalkArith.wf_i64 (by omega), h2⟩
theorem runs_l1 (hp : plain n f d p r dr o s m fr t = 0) (hF : F.length ≤ 1000) (hL : L.length ≤ 1000) (w : Nat) : ∀ q : Nat, ((q + w : Nat) : Int) = 3 * (f + 1) * d → Ev (fun k => l19Cluster_runs.l1 k (allA n f d p r dr o s m fr t nums saw F L q) (TA n f d p r dr o s m fr t nums saw F L (q + 1)) ((q + 1 : Nat) : Int) n f d p r dr o s m fr t nums saw F L) (allA n f d p r dr o s m fr t nums saw F L (3 * (f + 1) * d).toNat) := by
  have hb := plain_facts hp
  have hlr := len_range hp
  have hle := len_eq hp
  induction w with
  | zero =>
    intro q hq
    refine Ev.step (fun k => l19Cluster_runs.l1.eq_2 ..) (Ev.bind (Ev.from 700 (fun k hk => ref_length_at n f d p r dr o s m fr t hk)) ?_)
    rw [hle, show (3 * (f + 1) * d).toNat = q by omega]
    exact Ev.neg (by omega) (Ev.val rfl)
  | succ w ih =>
    intro q hq
    have go := ih (q + 1) (by omega)
    have hqlt : (q : Int) < 3 * (f + 1) * d := by omega
    refine Ev.step (fun k => l19Cluster_runs.l1.eq_2 ..) (Ev.bind (Ev.from 700 (fun k hk => ref_length_at n f d p r dr o s m fr t hk)) ?_)
    rw [hle]
    refine Ev.pos (by omega) ?_
    have hAl : (allA n f d p r dr o s m fr t nums saw F L (q + 1)).length = n.toNat := by simp [allA]
    have hA0 : (allA n f d p r dr o s m fr t nums saw F L q).length = n.toNat := by simp [allA]
    have hTl : (TA n f d p r dr o s m fr t nums saw F L (q + 1)).length = q + 1 := by simp [TA]
    have mid : ∀ (q2 i : Nat), i + q2 = n.toNat → Ev (fun k => l19Cluster_runs.l2 k (allA n f d p r dr o s m fr t nums saw F L q) (TA n f d p r dr o s m fr t nums saw F L (q + 1)) ((q + 1 : Nat) : Int) ((allA n f d p r dr o s m fr t nums saw F L (q + 1)).take i) (i : Int) n f d p r dr o s m fr t nums saw F L) (allA n f d p r dr o s m fr t nums saw F L (3 * (f + 1) * d).toNat) := by
      intro q2
      induction q2 with
      | zero =>
        intro i hi
        refine Ev.step (fun k => l19Cluster_runs.l2.eq_2 ..) (Ev.neg (by omega) ?_)
        rw [List.take_of_length_le (by omega)]
        refine Ev.bind (rowA_ev nums saw F L hp (q + 1) (by omega)) ?_
        have hr : (TA n f d p r dr o s m fr t nums saw F L (q + 1)).length < 5864062014805 := Nat.lt_of_le_of_lt (m := 1000) (by omega) (by decide)
        have hg : TA n f d p r dr o s m fr t nums saw F L (q + 1) ++ [rowA n f d p r dr o s m fr t nums saw F L (q + 1)] = TA n f d p r dr o s m fr t nums saw F L (q + 1 + 1) := by
          unfold TA
          rw [List.range_succ (n := q + 1), List.map_append]
          rfl
        rw [← hg, ← succ_w (i := q + 1) (by omega)] at go
        exact Ev.pos hr go
      | succ q2 ih2 =>
        intro i hi
        have hg : (allA n f d p r dr o s m fr t nums saw F L (q + 1)).take i ++ [st n f d p r dr o s m fr t nums saw F L (q + 1) i] = (allA n f d p r dr o s m fr t nums saw F L (q + 1)).take (i + 1) := take_map_succ (st n f d p r dr o s m fr t nums saw F L (q + 1)) (by omega)
        have go3 := ih2 (i + 1) (by omega)
        rw [← hg, ← succ_w (i := i) (by omega)] at go3
        have hrd : rdN (allA n f d p r dr o s m fr t nums saw F L q) (i : Int) = st n f d p r dr o s m fr t nums saw F L q i := rdN_range _ (by omega)
        have hstep := st_step nums saw F L hp hqlt i
        have hfine := st_fine nums saw F L hp q i
        refine Ev.step (fun k => l19Cluster_runs.l2.eq_2 ..) (Ev.pos (by omega) ?_)
        have hP : (pks n F L (TA n f d p r dr o s m fr t nums saw F L (q + 1)) (((q + 1 : Nat) : Int) - d) (i : Int)).length = n.toNat := by simp [pks]
        have inner : ∀ (q3 j : Nat), j + q3 = n.toNat → Ev (fun k => l19Cluster_runs.l3 k (allA n f d p r dr o s m fr t nums saw F L q) (TA n f d p r dr o s m fr t nums saw F L (q + 1)) ((q + 1 : Nat) : Int) ((allA n f d p r dr o s m fr t nums saw F L (q + 1)).take i) (i : Int) ((pks n F L (TA n f d p r dr o s m fr t nums saw F L (q + 1)) (((q + 1 : Nat) : Int) - d) (i : Int)).take j) (j : Int) n f d p r dr o s m fr t nums saw F L) (allA n f d p r dr o s m fr t nums saw F L (3 * (f + 1) * d).toNat) := by
          intro q3
          induction q3 with
          | zero =>
            intro j hj
            have hr : ((allA n f d p r dr o s m fr t nums saw F L (q + 1)).take i).length < 3518437208883 := Nat.lt_of_le_of_lt (m := 13) (by rw [List.length_take]; omega) (by decide)
            refine Ev.step (fun k => l19Cluster_runs.l3.eq_2 ..) (Ev.neg (by omega) (Ev.pos (by omega) (Ev.pos (by omega) ?_)))
            rw [List.take_of_length_le (by omega)]
            refine Ev.bind (step_ev n f d p r dr o s m fr t (rdN (allA n f d p r dr o s m fr t nums saw F L q) (i : Int)).f0 (rdN (allA n f d p r dr o s m fr t nums saw F L q) (i : Int)).f1 (rdN (allA n f d p r dr o s m fr t nums saw F L q) (i : Int)).f2 (by rw [hrd]; exact hfine.2) _ (by omega)) (Ev.pos hr ?_)
            rw [hrd]
            rw [← hstep] at go3
            exact go3
          | succ q3 ih3 =>
            intro j hj
            have hg2 : (pks n F L (TA n f d p r dr o s m fr t nums saw F L (q + 1)) (((q + 1 : Nat) : Int) - d) (i : Int)).take j ++ [pk n F L (TA n f d p r dr o s m fr t nums saw F L (q + 1)) (((q + 1 : Nat) : Int) - d) (j : Int) (i : Int)] = (pks n F L (TA n f d p r dr o s m fr t nums saw F L (q + 1)) (((q + 1 : Nat) : Int) - d) (i : Int)).take (j + 1) := take_map_succ (fun k : Nat => pk n F L (TA n f d p r dr o s m fr t nums saw F L (q + 1)) (((q + 1 : Nat) : Int) - d) (k : Int) (i : Int)) (by omega)
            have go4 := ih3 (j + 1) (by omega)
            rw [← hg2, ← succ_w (i := j) (by omega), ← untup (pk n F L (TA n f d p r dr o s m fr t nums saw F L (q + 1)) (((q + 1 : Nat) : Int) - d) (j : Int) (i : Int))] at go4
            have hr : ((pks n F L (TA n f d p r dr o s m fr t nums saw F L (q + 1)) (((q + 1 : Nat) : Int) - d) (i : Int)).take j).length < 1954687338268 := Nat.lt_of_le_of_lt (m := 13) (by rw [List.length_take]; omega) (by decide)
            refine Ev.step (fun k => l19Cluster_runs.l3.eq_2 ..) (Ev.pos (by omega) ?_)
            rw [ConfLib.wrap_small (n := ((q + 1 : Nat) : Int) - d) (by omega) (by omega)]
            refine Ev.bind (packet_ev nums saw F L hp hF hL _ _ (by omega) j i (by omega) (by omega) (fun h0 => ?_)) (Ev.pos hr go4)
            obtain ⟨e, he⟩ := Int.eq_ofNat_of_zero_le h0
            rw [he, hTl]
            have hlt : e < q + 1 := by omega
            refine ⟨by omega, ?_⟩
            unfold TA
            rw [rdL_range _ hlt]
            unfold rowA allA
            rw [List.length_map, List.length_map, List.length_range]
            omega
        exact inner n.toNat 0 (by omega)
    exact mid n.toNat 0 (by omega)
theorem runs_ev (hp : plain n f d p r dr o s m fr t = 0) (hF : F.length ≤ 1000) (hL : L.length ≤ 1000) (hn : nums.length = n.toNat) (hs : saw.length = n.toNat) (hw : ∀ y ∈ nums, (Lit.int .i64 y).wf = true) : Ev (fun k => l19Cluster_runs.f k n f d p r dr o s m fr t nums saw F L) (allA n f d p r dr o s m fr t nums saw F L (3 * (f + 1) * d).toNat) := by
  have hb := plain_facts hp
  have hlr := len_range hp
  have hAl : (allA n f d p r dr o s m fr t nums saw F L 0).length = n.toNat := by simp [allA]
  have st0 : ∀ i, st n f d p r dr o s m fr t nums saw F L 0 i = ⟨0, begin_ n f d p r dr o s m fr t (rd nums (i : Int)) (rdS saw (i : Int)), mt⟩ := by
    intro i
    unfold st
    rw [if_pos (by omega), Nat.zero_div]
    rfl
  refine Ev.congr (fun k => l19Cluster_runs.f.eq_1 ..) ?_
  have key : ∀ (q i : Nat), i + q = n.toNat → Ev (fun k => l19Cluster_runs.l0 k ((allA n f d p r dr o s m fr t nums saw F L 0).take i) (i : Int) n f d p r dr o s m fr t nums saw F L) (allA n f d p r dr o s m fr t nums saw F L (3 * (f + 1) * d).toNat) := by
    intro q
    induction q with
    | zero =>
      intro i hi
      refine Ev.step (fun k => l19Cluster_runs.l0.eq_2 ..) (Ev.neg (by omega) ?_)
      rw [List.take_of_length_le (by omega)]
      refine Ev.bind (rowA_ev nums saw F L hp 0 (by omega)) ?_
      exact runs_l1 nums saw F L hp hF hL (3 * (f + 1) * d).toNat 0 (by omega)
    | succ q ih =>
      intro i hi
      have hg : (allA n f d p r dr o s m fr t nums saw F L 0).take i ++ [st n f d p r dr o s m fr t nums saw F L 0 i] = (allA n f d p r dr o s m fr t nums saw F L 0).take (i + 1) := take_map_succ (st n f d p r dr o s m fr t nums saw F L 0) (by omega)
      have go := ih (i + 1) (by omega)
      rw [← hg, ← succ_w (i := i) (by omega), st0] at go
      have hr : ((allA n f d p r dr o s m fr t nums saw F L 0).take i).length < 3518437208883 := Nat.lt_of_le_of_lt (m := 13) (by rw [List.length_take]; omega) (by decide)
      have hnw : rd nums (i : Int) ≤ 9223372036854775807 := by
        have : rd nums (i : Int) = nums[i]'(by omega) := by simp [rd, List.getD_eq_getElem?_getD, show i < nums.length by omega]
        rw [this]
        exact (Bytes.wf64 (hw _ (List.getElem_mem _))).2
      exact Ev.step (fun k => l19Cluster_runs.l0.eq_2 ..) (Ev.pos (by omega) (Ev.pos (by omega) (Ev.pos (by omega) (Ev.pos (by omega) (Ev.bind (begin_ev n f d p r dr o s m fr t _ hnw _) (Ev.pos hr go))))))
  exact key n.toNat 0 (by omega)
end
end Go.Proofs.Ythblnnboeikgcaa.AgreeLib
