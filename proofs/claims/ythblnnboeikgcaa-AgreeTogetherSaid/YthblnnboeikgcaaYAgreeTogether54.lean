import Derived.Test.YthblnnboeikgcaaYAgreeTogether53
set_option linter.unusedVariables false
set_option linter.unusedSimpArgs false
namespace Go.Proofs.Ythblnnboeikgcaa.agreeTogether
open Go.RowKit Go.Proofs.Ythblnnboeikgcaa.X Go.Proofs.YthblnnboeikgcaaW.PrintWords Go.Proofs.Ythblnnboeikgcaa.ConfLib Go.Proofs.Ythblnnboeikgcaa.KingLib Go.Proofs.Ythblnnboeikgcaa.VecLib Go.Proofs.Ythblnnboeikgcaa.AgreeLib
theorem known : Ev (fun k => l19known.f k) true := Ev.of l19known.mono (show l19known.f 1000 = some true by decide +kernel)
theorem last : Ev (fun k => (l19known.f k).bind fun t => some t) true := Ev.bind known (Ev.val rfl)
theorem num_next (z : ByteArray) (j : Nat) : ((num z (j + 1) : Nat) : Int) = ((num z j : Nat) : Int) + bit (bt z (j : Int)) * ((2 ^ j : Nat) : Int) := by
  have hb := vec_Of_1.range (bt z (j : Int))
  have e : bit (bt z (j : Int)) = (((bit (bt z (j : Int))).toNat : Nat) : Int) := by show vec_Of_1.digit _ = (((vec_Of_1.digit _).toNat : Nat) : Int); omega
  rw [num, Int.natCast_add, Int.natCast_mul, ← e]
theorem num8 (z : ByteArray) (n : Int) (h0 : 0 ≤ n) (h1 : n ≤ 255) (hb : ∀ j : Nat, j < 8 → bit (bt z (j : Int)) = n / 2 ^ j % 2) : ((num z 8 : Nat) : Int) = n := by
  have n0 := num_next z 0
  have n1 := num_next z 1
  have n2 := num_next z 2
  have n3 := num_next z 3
  have n4 := num_next z 4
  have n5 := num_next z 5
  have n6 := num_next z 6
  have n7 := num_next z 7
  rw [hb 0 (by omega)] at n0
  rw [hb 1 (by omega)] at n1
  rw [hb 2 (by omega)] at n2
  rw [hb 3 (by omega)] at n3
  rw [hb 4 (by omega)] at n4
  rw [hb 5 (by omega)] at n5
  rw [hb 6 (by omega)] at n6
  rw [hb 7 (by omega)] at n7
  have z0 : num z 0 = 0 := rfl
  clear hb
  simp only [Nat.reduceAdd, Nat.reducePow, Int.reducePow, Nat.zero_add] at n0 n1 n2 n3 n4 n5 n6 n7
  generalize num z 0 = m0 at *
  generalize num z 1 = m1 at *
  generalize num z 2 = m2 at *
  generalize num z 3 = m3 at *
  generalize num z 4 = m4 at *
  generalize num z 5 = m5 at *
  generalize num z 6 = m6 at *
  generalize num z 7 = m7 at *
  generalize num z 8 = m8 at *
  omega
section
variable {n f d p r dr o s m fr : Int} {t : List Int} (nums : List Int) (saw : List ByteArray) (F : List Int) (L : List Packet)
theorem firstD_range (number : Int) (z : ByteArray) (j : Nat) : 0 ≤ (firstD n number z).getD j 0 ∧ (firstD n number z).getD j 0 ≤ 1 := by
  by_cases h : j < (firstD n number z).length
  · have e : (firstD n number z).getD j 0 = (firstD n number z)[j] := by simp [List.getD_eq_getElem?_getD, h]
    rw [e]
    exact firstD_bin n number z _ (List.getElem_mem _)
  · have e : (firstD n number z).getD j 0 = 0 := by simp [List.getD_eq_getElem?_getD, show (firstD n number z).length ≤ j by omega]
    rw [e]
    omega
theorem firstD_low (number : Int) (z : ByteArray) {j : Nat} (hj : j < 8) : (firstD n number z).getD j 0 = (max number 0) / 2 ^ j % 2 := by
  rw [← bitsD_get 8 (max number 0) j hj]
  unfold firstD
  simp [List.getD_eq_getElem?_getD, List.getElem?_append, bitsD_len, hj]
theorem firstD_high (number : Int) (z : ByteArray) {k : Nat} (hk : k < n.toNat) : (firstD n number z).getD (8 + k) 0 = sd z k := by
  rw [← seenD_get z hk]
  unfold firstD
  simp [List.getD_eq_getElem?_getD, List.getElem?_append, bitsD_len, show ¬ (8 + k < 8) by omega]
theorem start_val (hp : plain n f d p r dr o s m fr t = 0) (i j : Nat) (hj : j < 8 + n.toNat) : val (bt (NW n f d p r dr o s m fr t nums saw F L 0 i) (j : Int)) = (firstD n (rd nums (i : Int)) (rdS saw (i : Int))).getD j 0 := by
  show val (bt (begin_ n f d p r dr o s m fr t (rd nums (i : Int)) (rdS saw (i : Int))) (j : Int)) = _
  unfold begin_
  rw [if_pos hp]
  have hr := firstD_range (n := n) (rd nums (i : Int)) (rdS saw (i : Int)) j
  have hl := firstD_len n (rd nums (i : Int)) (rdS saw (i : Int))
  generalize hq : firstD n (rd nums (i : Int)) (rdS saw (i : Int)) = V at hr hl ⊢
  have hb : (vec_Of.digits (txt V)).getD j 0 = V.getD j 0 := by
    rw [of_get _ (by rw [txt_size]; omega), txt_bt V (by omega) (by omega) (by omega)]
    show (if _ then _ else _) = _
    split <;> omega
  rw [txt_bt _ (by rw [of_len, txt_size]; omega) (by omega) (by omega), hb]
  show vec_Values_1.digit _ = _
  unfold vec_Values_1.digit
  rw [if_neg (by omega)]
  omega
end
theorem pure : Pure := by
  rintro ⟨⟨n, f, d, p, r, dr, o, s, m, fr, t⟩, nums, saw, F, L⟩ hW
  have hnw : ∀ y ∈ nums, (Lit.int .i64 y).wf = true := hW.2.1.2
  refine Ev.rounds (r := true) ?_
  show Ev (fun k => l19AgreeTogether.f k n f d p r dr o s m fr t nums saw F L) true
  clear hW
  refine Ev.congr (fun k => l19AgreeTogether.f.eq_1 ..) ?_
  refine Ev.bind (Ev.from 700 (fun k hk => ref_plain_at n f d p r dr o s m fr t hk)) ?_
  have out : Ev (fun k => l19AgreeTogether.j0 k true n f d p r dr o s m fr t nums saw F L) true := Ev.step (fun k => l19AgreeTogether.j0.eq_2 ..) (Ev.pos rfl last)
  by_cases hp : plain n f d p r dr o s m fr t = 0
  case neg => exact Ev.neg hp out
  have hb := plain_facts hp
  refine Ev.pos hp ?_
  by_cases h1 : (nums.length : Int) = n
  case neg => exact Ev.neg h1 out
  refine Ev.pos h1 ?_
  by_cases h2 : (saw.length : Int) = n
  case neg => exact Ev.neg h2 out
  refine Ev.pos h2 ?_
  by_cases h3 : (F.length : Int) > f
  · exact Ev.pos h3 out
  refine Ev.neg h3 (Ev.step (fun k => l19AgreeTogether.j0.eq_2 ..) ?_)
  by_cases h4 : (L.length : Int) > 1000
  · exact Ev.pos (decide_eq_true h4) last
  refine Ev.neg (by simpa using h4) ?_
  have hlr := len_range hp
  have hf : KingMath.bad n.toNat (hon F) ≤ f.toNat := by
    have := bad_few n.toNat F
    omega
  refine Ev.bind (runs_ev nums saw F L hp (by omega) (by omega) (by omega) (by omega) hnw) ?_
  obtain ⟨z, hz, hzh⟩ := KingMath.some_king hf (by omega)
  have R := now_run nums saw F L hp
  have hl : (allA n f d p r dr o s m fr t nums saw F L (3 * (f + 1) * d).toNat).length = n.toNat := by simp [allA]
  have hget : ∀ i : Nat, i < n.toNat → rd_T26 (allA n f d p r dr o s m fr t nums saw F L (3 * (f + 1) * d).toNat) (i : Int) = ⟨(((3 * (f + 1) * d).toNat : Nat) : Int), mt, txt (vec_Values.digits (NW n f d p r dr o s m fr t nums saw F L (3 * (f.toNat + 1)) i))⟩ := by
    intro i hi
    have e : rd_T26 (allA n f d p r dr o s m fr t nums saw F L (3 * (f + 1) * d).toNat) (i : Int) = st n f d p r dr o s m fr t nums saw F L (3 * (f + 1) * d).toNat i := rdN_range _ hi
    rw [e]
    unfold st
    rw [if_neg (by omega)]
  have hag : ∀ j, j < 8 + n.toNat → ∃ v : Int, (v = 0 ∨ v = 1) ∧ ∀ i, i < n.toNat → hon F i = true → bt (NW n f d p r dr o s m fr t nums saw F L (3 * (f.toNat + 1)) i) (j : Int) = 48 + v := fun j hj => vec_agrees hp hf R hj
  have hke : ∀ j, j < 8 + n.toNat → ∀ v : Int, (v = 0 ∨ v = 1) → (∀ i, i < n.toNat → hon F i = true → (firstD n (rd nums (i : Int)) (rdS saw (i : Int))).getD j 0 = v) → ∀ i, i < n.toNat → hon F i = true → bt (NW n f d p r dr o s m fr t nums saw F L (3 * (f.toNat + 1)) i) (j : Int) = 48 + v :=
    fun j hj v hv h0 => vec_keeps hp hf R hj hv (fun i hi hh => by rw [start_val nums saw F L hp i j hj]; exact h0 i hi hh)
  have hsz : ∀ i, (NW n f d p r dr o s m fr t nums saw F L (3 * (f.toNat + 1)) i).size = 8 + n.toNat := now_size nums saw F L hp (3 * (f.toNat + 1))
  generalize NW n f d p r dr o s m fr t nums saw F L (3 * (f.toNat + 1)) = N at hget hag hke hsz
  generalize allA n f d p r dr o s m fr t nums saw F L (3 * (f + 1) * d).toNat = A at hl hget ⊢
  have hsame : ∀ i j, i < n.toNat → j < n.toNat → hon F i = true → hon F j = true → N i = N j := by
    intro i j hi hj hhi hhj
    refine ext_bt (by rw [hsz i, hsz j]) (fun q hq => ?_)
    rw [hsz i] at hq
    obtain ⟨v, _, h⟩ := hag q hq
    rw [h i hi hhi, h j hj hhj]
  have hcon : ∀ i : Nat, F.contains (i : Int) = false → hon F i = true := fun i h => by unfold hon; rw [h]; rfl
  have hnot : ∀ i : Nat, F.contains (i : Int) = true → ¬ hon F i = true := fun i h => by unfold hon; rw [h]; decide
  /- From the first one on. -/
  have from_ : ∀ g : Nat, g < n.toNat → hon F g = true → Ev (fun k => l19AgreeTogether.j2 k A (g : Int) n f d p r dr o s m fr t nums saw F L) true := by
    intro g hg hgh
    have hgs : (txt (vec_Values.digits (N g))).size = 8 + n.toNat := by rw [txt_size, values_len, hsz g]
    have hgb : ∀ j, j < 8 + n.toNat → ∀ v : Int, (v = 0 ∨ v = 1) → bt (N g) (j : Int) = 48 + v → bt (txt (vec_Values.digits (N g))) (j : Int) = 48 + v := by
      intro j hj v hv h
      have e : (vec_Values.digits (N g)).getD j 0 = v := by
        rw [values_get _ (by rw [hsz g]; exact hj), h]
        show vec_Values_1.digit _ = v
        unfold vec_Values_1.digit
        rw [if_neg (by omega)]
        omega
      rw [txt_bt _ (by rw [values_len, hsz g]; exact hj) (by omega) (by omega), e]
    refine Ev.step (fun k => l19AgreeTogether.j2.eq_2 ..) (Ev.pos (by omega) (Ev.pos (by omega) (Ev.bind (Ev.from 700 (fun k hk => ref_bits_at n f d p r dr o s m fr t hk)) ?_)))
    rw [hget g hg]
    refine Ev.pos (show (((txt (vec_Values.digits (N g))).size : Nat) : Int) = _ by rw [hgs]; unfold ConfLib.bits; rw [if_pos hp]; omega) ?_
    generalize hgot : txt (vec_Values.digits (N g)) = got at hgs hgb ⊢
    /- The last look at whom all saw. -/
    have seen : Ev (fun k => l19Cluster_saw.f k n f d p r dr o s m fr t nums saw F L got (g : Int)) true := by
      refine Ev.congr (fun k => l19Cluster_saw.f.eq_1 ..) ?_
      have hdl : ∀ w : ByteArray, (txt (seenD w n.toNat)).size = n.toNat := fun w => by rw [txt_size, seenD_len]
      have hdb : ∀ (w : ByteArray) (k : Nat), k < n.toNat → bt (txt (seenD w n.toNat)) (k : Int) = 48 + sd w k := by
        intro w k hk
        have := sd_bin w k
        rw [txt_bt _ (by rw [seenD_len]; exact hk) (by rw [seenD_get w hk]; omega) (by rw [seenD_get w hk]; omega), seenD_get w hk]
      have outer : ∀ (q k : Nat), k + q = n.toNat → Ev (fun j => l19Cluster_saw.l0 j got (g : Int) (k : Int) n f d p r dr o s m fr t nums saw F L) true := by
        intro q
        induction q with
        | zero =>
          intro k hk
          exact Ev.step (fun j => l19Cluster_saw.l0.eq_2 ..) (Ev.neg (by omega) (Ev.val rfl))
        | succ q ih =>
          intro k hk
          have go := ih (k + 1) (by omega)
          rw [← succ_w (i := k) (by omega)] at go
          have hkn : k < n.toNat := by omega
          refine Ev.step (fun j => l19Cluster_saw.l0.eq_2 ..) (Ev.pos (by omega) (Ev.pos (by omega) (Ev.pos (by omega) (Ev.bind (digits_ev _ n (by omega)) (Ev.pos (by omega) (Ev.pos (by rw [hdl]; omega) ?_))))))
          rw [hdb _ k hkn]
          obtain ⟨v, hv, hall⟩ := hag (8 + k) (by omega)
          have hgv := hgb (8 + k) (by omega) v hv (hall g hg hgh)
          have inner : ∀ (q2 i : Nat) (alike : Bool), i + q2 = n.toNat → (alike = true → ∀ e, e < i → hon F e = true → sd (rdS saw (e : Int)) k = sd (rdS saw (g : Int)) k) → Ev (fun j => l19Cluster_saw.l1 j got (g : Int) (k : Int) alike (48 + sd (rdS saw (g : Int)) k) (i : Int) n f d p r dr o s m fr t nums saw F L) true := by
            intro q2
            induction q2 with
            | zero =>
              intro i alike hi hsm
              refine Ev.step (fun j => l19Cluster_saw.l1.eq_2 ..) (Ev.neg (by omega) ?_)
              rw [ConfLib.wrap_small (n := 8 + (k : Int)) (by omega) (by omega), show (8 + (k : Int)) = ((8 + k : Nat) : Int) by omega, hgv]
              refine Ev.pos (by omega) (Ev.pos (by omega) ?_)
              have fin : alike = true → 48 + v = 48 + sd (rdS saw (g : Int)) k := by
                intro ha
                have h5 := hke (8 + k) (by omega) (sd (rdS saw (g : Int)) k) (by have := sd_bin (rdS saw (g : Int)) k; omega) (fun e he hhe => by rw [firstD_high _ _ hkn]; exact hsm ha e (by omega) hhe) g hg hgh
                rw [hall g hg hgh] at h5
                exact h5
              have tail : ∀ g2 : Nat → Option Bool, Ev g2 true → Ev (fun j => if alike = true then (if 48 + v = 48 + sd (rdS saw (g : Int)) k then g2 j else some false) else g2 j) true := by
                intro g2 hg2
                by_cases ha : alike = true
                · exact Ev.pos ha (Ev.pos (fin ha) hg2)
                · exact Ev.neg ha hg2
              rcases hv with rfl | rfl
              · exact Ev.pos rfl (tail _ go)
              · exact Ev.neg (by decide) (Ev.pos rfl (tail _ go))
            | succ q2 ih2 =>
              intro i alike hi hsm
              refine Ev.step (fun j => l19Cluster_saw.l1.eq_2 ..) (Ev.pos (by omega) ?_)
              by_cases ha : alike = true
              · refine Ev.pos ha (Ev.bind (in_ev F (by omega) (i : Int)) ?_)
                rw [succ_w (by omega)]
                by_cases hc : F.contains (i : Int) = true
                · refine Ev.pos hc (ih2 (i + 1) true (by omega) (fun _ e he hhe => ?_))
                  by_cases hei : e = i
                  · subst hei
                    exact absurd hhe (hnot e hc)
                  · exact hsm ha e (by omega) hhe
                · refine Ev.neg hc (Ev.pos (by omega) (Ev.pos (by omega) (Ev.bind (digits_ev _ n (by omega)) (Ev.pos (by omega) (Ev.pos (by rw [hdl]; omega) ?_)))))
                  rw [hdb _ k hkn]
                  refine ih2 (i + 1) _ (by omega) (fun hq e he hhe => ?_)
                  by_cases hei : e = i
                  · subst hei
                    have : 48 + sd (rdS saw (e : Int)) k = 48 + sd (rdS saw (g : Int)) k := by simpa using hq
                    omega
                  · exact hsm ha e (by omega) hhe
              · refine Ev.neg ha ?_
                rw [succ_w (by omega)]
                exact ih2 (i + 1) false (by omega) (fun hq => by cases hq)
          exact inner n.toNat 0 true (by omega) (fun _ e he => by omega)
      exact outer n.toNat 0 (by omega)
    have end_ : Ev (fun k => l19AgreeTogether.j4 k (g : Int) got false n f d p r dr o s m fr t nums saw F L) true := Ev.step (fun k => l19AgreeTogether.j4.eq_2 ..) (Ev.neg (by decide) (Ev.bind seen (Ev.pos rfl last)))
    have loop : ∀ (q i : Nat) (same : Bool), i + q = n.toNat → (same = true → ∀ e, e < i → hon F e = true → rd nums (e : Int) = rd nums (g : Int)) → Ev (fun k => l19AgreeTogether.l1 k A (g : Int) got same (i : Int) n f d p r dr o s m fr t nums saw F L) true := by
      intro q
      induction q with
      | zero =>
        intro i same hi hsm
        refine Ev.step (fun k => l19AgreeTogether.l1.eq_2 ..) (Ev.neg (by omega) (Ev.pos (by omega) (Ev.pos (by omega) ?_)))
        by_cases hs : same = true
        case neg => exact Ev.neg hs end_
        refine Ev.pos hs ?_
        by_cases h5 : rd nums (g : Int) ≥ 0
        case neg => exact Ev.neg h5 end_
        refine Ev.pos h5 ?_
        by_cases h6 : rd nums (g : Int) < 256
        case neg => exact Ev.neg h6 end_
        refine Ev.pos h6 (Ev.bind (ref_number_ev got) ?_)
        have ht : top got = 8 := by unfold top; omega
        have hnum : ((num got 8 : Nat) : Int) = rd nums (g : Int) := by
          refine num8 got _ (by omega) (by omega) (fun j hj => ?_)
          have hr := firstD_range (n := n) (rd nums (g : Int)) (rdS saw (g : Int)) j
          have hlow := firstD_low (n := n) (rd nums (g : Int)) (rdS saw (g : Int)) hj
          rw [show max (rd nums (g : Int)) 0 = rd nums (g : Int) by omega] at hlow
          rw [hlow] at hr
          generalize hv : rd nums (g : Int) / 2 ^ j % 2 = v at hlow hr ⊢
          have hk := hke j (by omega) v (by omega) (fun e he hhe => by
            rw [firstD_low _ _ hj, hsm hs e (by omega) hhe, show max (rd nums (g : Int)) 0 = rd nums (g : Int) by omega]
            exact hv) g hg hgh
          rw [hgb j (by omega) v (by omega) hk]
          show (if _ then _ else _) = _
          split <;> omega
        rw [ht, hnum]
        rw [show (rd nums (g : Int) != rd nums (g : Int)) = false by simp]
        exact end_
      | succ q ih =>
        intro i same hi hsm
        refine Ev.step (fun k => l19AgreeTogether.l1.eq_2 ..) (Ev.pos (by omega) (Ev.bind (in_ev F (by omega) (i : Int)) ?_))
        rw [succ_w (by omega)]
        by_cases hc : F.contains (i : Int) = true
        · refine Ev.pos hc (ih (i + 1) same (by omega) (fun hs e he hhe => ?_))
          by_cases hei : e = i
          · subst hei
            exact absurd hhe (hnot e hc)
          · exact hsm hs e (by omega) hhe
        · have hh := hcon i (by simpa using hc)
          refine Ev.neg hc (Ev.pos (by omega) (Ev.pos (by omega) ?_))
          rw [hget i (by omega)]
          refine Ev.pos (show (⟨#[]⟩ : ByteArray).toList = ([] : List UInt8) by rw [ByteArray.toList_eq]) (Ev.pos (show (txt (vec_Values.digits (N i))).toList = got.toList by rw [hsame i g (by omega) hg hh hgh, hgot]) ?_)
          by_cases hs : same = true
          · refine Ev.pos hs (Ev.pos (by omega) (Ev.pos (by omega) (Ev.pos (by omega) ?_)))
            refine ih (i + 1) _ (by omega) (fun hq e he hhe => ?_)
            by_cases hei : e = i
            · subst hei
              simpa using hq
            · exact hsm hs e (by omega) hhe
          · exact Ev.neg hs (ih (i + 1) false (by omega) (fun hq => by cases hq))
    exact loop n.toNat 0 true (by omega) (fun _ e he => by omega)
  have find : ∀ (q i : Nat), i + q = n.toNat → i ≤ z → Ev (fun k => l19AgreeTogether.l0 k A (i : Int) n f d p r dr o s m fr t nums saw F L) true := by
    intro q
    induction q with
    | zero => intro i hi hiz; omega
    | succ q ih =>
      intro i hi hiz
      refine Ev.step (fun k => l19AgreeTogether.l0.eq_2 ..) (Ev.pos (by omega) (Ev.bind (in_ev F (by omega) (i : Int)) ?_))
      by_cases hc : F.contains (i : Int) = true
      · refine Ev.pos hc ?_
        rw [succ_w (by omega)]
        have hne : i ≠ z := fun e => by
          subst e
          exact hnot i hc hzh
        exact ih (i + 1) (by omega) (by omega)
      · exact Ev.neg hc (from_ i (by omega) (hcon i (by simpa using hc)))
  exact find n.toNat 0 (by omega) (by omega)
end Go.Proofs.Ythblnnboeikgcaa.agreeTogether
