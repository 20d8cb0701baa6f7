import Derived.Test.YtmdnmofcgmmfbaaYTraceReads37
set_option linter.unusedVariables false
set_option linter.unusedSimpArgs false
namespace Go.Proofs.Ytmdnmofcgmmfbaa.TraceLib
open Go Go.RowKit Go.Proofs.Ytmdnmofcgmmfbaa.T Go.Proofs.YtmdnmofcgmmfbaaW.PrintWords Go.Proofs.YtmdnmofcgmmfbaaW.PrintMore Go.Proofs.Ytmdnmofcgmmfbaa.EvL
def mk (l : Rows) (node p : Int) (e : Nat) : S40 := ⟨p, (rep l p.toNat node).f2, (rep l p.toNat node).f4, (rep l p.toNat node).f1, trace_Got.got l node p.toNat (e - p.toNat)⟩
def cl (l : Rows) (node : Int) : List Int → Nat → List S40
  | [], _ => []
  | [p], n => [mk l node p n]
  | p :: q :: ps, n => mk l node p q.toNat :: cl l node (q :: ps) n
theorem cl_snoc (l : Rows) (node p : Int) (n : Nat) : ∀ P : List Int, cl l node (P ++ [p]) n = cl l node P p.toNat ++ [mk l node p n]
  | [] => rfl
  | [a] => rfl
  | a :: b :: ps => by
    have := cl_snoc l node p n (b :: ps)
    show mk l node a b.toNat :: cl l node (b :: ps ++ [p]) n = _
    rw [this]
    rfl
theorem cl_len (l : Rows) (node : Int) (n : Nat) : ∀ P : List Int, (cl l node P n).length = P.length
  | [] => rfl
  | [a] => rfl
  | a :: b :: ps => by
    show (cl l node (b :: ps) n).length + 1 = _
    rw [cl_len l node n (b :: ps)]
    rfl
theorem cl_f0 (l : Rows) (node : Int) (n : Nat) : ∀ P : List Int, (cl l node P n).map (fun z => z.f0) = P
  | [] => rfl
  | [a] => rfl
  | a :: b :: ps => by
    show a :: (cl l node (b :: ps) n).map (fun z => z.f0) = _
    rw [cl_f0 l node n (b :: ps)]
theorem picks_mem {P : S28 → Bool} {l : Rows} {node : Int} {n : Nat} {p : Int} (h : p ∈ trace_when.picks P l node n) : ∃ x : Nat, p = (x : Int) ∧ x < n := by
  unfold trace_when.picks at h
  obtain ⟨x, hx, rfl⟩ := List.mem_map.1 h
  exact ⟨x, rfl, List.mem_range.1 (List.mem_filter.1 hx).1⟩
theorem picks_lt (P : S28 → Bool) (l : Rows) (node : Int) (n : Nat) : (trace_when.picks P l node n).Pairwise (· < ·) := by
  unfold trace_when.picks
  refine List.Pairwise.map _ (fun a b (h : a < b) => by omega) (List.Pairwise.filter _ List.pairwise_lt_range)
abbrev pulses (l : Rows) (node : Int) (n : Nat) : List Int := trace_when.picks (fun r => r.f0) l node n
theorem cyc_eq (l : Rows) (node : Int) : ∀ n : Nat, trace_Cycles.cyc l node (List.range n) = cl l node (pulses l node n) n
  | 0 => rfl
  | n + 1 => by
    rw [List.range_succ, trace_Cycles.cyc_snoc, cyc_eq l node n]
    have hp := picks_succ (fun r => r.f0) l node n
    have g1 : trace_Got.got l node n 1 = (rep l n node).f6 := by
      simp [trace_Got.got]
    by_cases h : (rep l n node).f0 = true
    · rw [if_pos h] at hp
      show _ = cl l node (trace_when.picks (fun r => r.f0) l node (n + 1)) (n + 1)
      rw [hp, cl_snoc]
      unfold trace_Cycles.step
      rw [if_pos h]
      unfold mk
      rw [Int.toNat_natCast, show n + 1 - n = 1 by omega, g1]
    · rw [if_neg h] at hp
      show _ = cl l node (trace_when.picks (fun r => r.f0) l node (n + 1)) (n + 1)
      rw [hp]
      rcases List.eq_nil_or_concat (pulses l node n) with e | ⟨P0, p, e⟩
      · rw [e]
        show trace_Cycles.step (cl l node [] n) _ _ = cl l node (pulses l node n) (n + 1)
        rw [e]
        unfold trace_Cycles.step
        rw [if_neg h]
        rfl
      · rw [List.concat_eq_append] at e
        obtain ⟨x, rfl, hx⟩ := picks_mem (show p ∈ pulses l node n by rw [e]; simp)
        show trace_Cycles.step (cl l node (pulses l node n) n) _ _ = cl l node (pulses l node n) (n + 1)
        rw [e, cl_snoc, cl_snoc, trace_Cycles.step_last _ _ _ _ (by simpa using h)]
        have g2 := got_succ l node x (n - x)
        unfold mk
        rw [Int.toNat_natCast, show n + 1 - x = n - x + 1 by omega, g2, show x + (n - x) = n by omega]
theorem rd_at {P : List Int} {i : Nat} (h : i < P.length) : rd P (i : Int) = P[i] := by simp [rd, List.getD_eq_getElem?_getD, List.getElem?_eq_getElem h]
theorem ref_cycles {l : Rows} (hf : Few l) (node : Int) : Ev (fun k => r36Cycles.f k l node) (trace_Cycles.cyc l node (List.range l.length)) := by
  have hl := hf.1
  rw [cyc_eq]
  refine Ev.congr (fun k => r36Cycles.f.eq_1 ..) (Ev.bind (ref_pulses l hl node) ?_)
  have hmem : ∀ p ∈ pulses l node l.length, ∃ x : Nat, p = (x : Int) ∧ x < l.length := fun p hp => picks_mem hp
  have hpl := picks_len (fun r => r.f0) l node l.length
  show Ev (fun n => r36Cycles.l0 n l node (pulses l node l.length) [] 0) _
  have hpl' : (pulses l node l.length).length ≤ 200 := Nat.le_trans hpl hl
  generalize pulses l node l.length = P at hmem hpl' ⊢
  have loop : ∀ (q i : Nat) (acc : List S40), i + q = P.length → acc.length = i → Ev (fun k => r36Cycles.l0 k l node P acc (i : Int)) (acc ++ cl l node (P.drop i) l.length) := by
    intro q
    induction q with
    | zero =>
      intro i acc hi ha
      refine Ev.step (fun k => r36Cycles.l0.eq_2 ..) (Ev.neg (by omega) (Ev.val ?_))
      rw [List.drop_eq_nil_of_le (by omega)]
      simp [cl]
    | succ q ih =>
      intro i acc hi ha
      have hilt : i < P.length := by omega
      obtain ⟨x, hx, hxl⟩ := hmem P[i] (List.getElem_mem _)
      have hd : P.drop i = P[i] :: P.drop (i + 1) := List.drop_eq_getElem_cons hilt
      have hw : wrap64 ((i : Int) + 1) = ((i + 1 : Nat) : Int) := EvL.wrap_small (by omega) (by omega)
      refine Ev.step (fun k => r36Cycles.l0.eq_2 ..) (Ev.pos (by omega) ?_)
      rw [hw, rd_at hilt, hx]
      by_cases h1 : i + 1 < P.length
      · have hd2 : P.drop (i + 1) = P[i + 1] :: P.drop (i + 2) := List.drop_eq_getElem_cons h1
        obtain ⟨y, hy, hyl⟩ := hmem P[i + 1] (List.getElem_mem _)
        rw [rd_at h1, hy]
        refine Ev.pos (by omega) (Ev.pos (by omega) (Ev.pos (by omega) (Ev.some_ (at_in l x hxl node) (Ev.bind (ref_got hf node (x : Int) (y : Int)) (Ev.pos (by omega) ?_)))))
        have h2 := ih (i + 1) (acc ++ [mk l node (x : Int) y]) (by omega) (by simp; omega)
        have e2 : acc ++ [mk l node (x : Int) y] ++ cl l node (P.drop (i + 1)) l.length = acc ++ cl l node (P.drop i) l.length := by
          rw [hd, hd2, hx, hy, List.append_assoc]
          rfl
        rw [e2] at h2
        have e3 : trace_Got.got l node (x : Int).toNat ((min (y : Int) (l.length : Int)).toNat - (x : Int).toNat) = trace_Got.got l node (x : Int).toNat (y - (x : Int).toNat) := by
          congr 1
          omega
        rw [e3]
        exact h2
      · refine Ev.neg (by omega) (Ev.pos (by omega) (Ev.some_ (at_in l x hxl node) (Ev.bind (ref_got hf node (x : Int) (l.length : Int)) (Ev.pos (by omega) ?_))))
        have h2 := ih (i + 1) (acc ++ [mk l node (x : Int) l.length]) (by omega) (by simp; omega)
        have hd2 : P.drop (i + 1) = [] := List.drop_eq_nil_of_le (by omega)
        have e2 : acc ++ [mk l node (x : Int) l.length] ++ cl l node (P.drop (i + 1)) l.length = acc ++ cl l node (P.drop i) l.length := by
          rw [hd, hd2, hx, List.append_assoc]
          rfl
        rw [e2] at h2
        have e3 : trace_Got.got l node (x : Int).toNat ((min (l.length : Int) (l.length : Int)).toNat - (x : Int).toNat) = trace_Got.got l node (x : Int).toNat (l.length - (x : Int).toNat) := by
          congr 1
          omega
        rw [e3]
        exact h2
  exact loop P.length 0 [] (by omega) rfl
theorem cyc_ok {l : Rows} (hf : Few l) (node : Int) : trace_Cycles.ok l node := ⟨by have := hf.1; omega, fun x hx => by have := hf.2 x node hx; show (rep l x node).f6.length ≤ _; omega⟩
theorem cyc_at {l : Rows} (hf : Few l) (node : Int) : trace_Cycles.f l node = some (cl l node (pulses l node l.length) l.length) := by
  rw [← cyc_eq]
  exact if_pos (cyc_ok hf node)
theorem cl_mem {l : Rows} (hf : Few l) (node : Int) (n : Nat) (hn : n ≤ l.length) : ∀ P : List Int, (∀ p ∈ P, p.toNat ≤ l.length) → ∀ z ∈ cl l node P n, z.f4.length ≤ 8000
  | [], _, z, hz => by cases hz
  | [a], ha, z, hz => by
    rw [List.mem_singleton.1 hz]
    have h1 := ha a (by simp)
    have hl := hf.1
    show (trace_Got.got l node a.toNat (n - a.toNat)).length ≤ 8000
    rcases Nat.lt_or_ge a.toNat n with h | h
    · have := got_len hf node a.toNat (n - a.toNat) (by omega)
      omega
    · rw [Nat.sub_eq_zero_of_le h]
      simp [trace_Got.got]
  | a :: b :: ps, ha, z, hz => by
    rcases List.mem_cons.1 hz with rfl | hz
    · have h1 := ha a (by simp)
      have h2 := ha b (by simp)
      have hl := hf.1
      show (trace_Got.got l node a.toNat (b.toNat - a.toNat)).length ≤ 8000
      rcases Nat.lt_or_ge a.toNat b.toNat with h | h
      · have := got_len hf node a.toNat (b.toNat - a.toNat) (by omega)
        omega
      · rw [Nat.sub_eq_zero_of_le h]
        simp [trace_Got.got]
    · exact cl_mem hf node n hn (b :: ps) (fun p hp => ha p (List.mem_cons_of_mem _ hp)) z hz
theorem cl_flat (l : Rows) (node : Int) (n : Nat) : ∀ (p : Int) (ps : List Int), (p :: ps).Pairwise (· < ·) → (∀ q ∈ p :: ps, 0 ≤ q ∧ q.toNat ≤ n) → (cl l node (p :: ps) n).flatMap (fun z => z.f4) = trace_Got.got l node p.toNat (n - p.toNat)
  | p, [], _, _ => by simp [cl, mk]
  | p, q :: ps, h, hm => by
    have ih := cl_flat l node n q ps (List.Pairwise.of_cons h) (fun z hz => hm z (List.mem_cons_of_mem _ hz))
    have h1 : p < q := List.rel_of_pairwise_cons h (by simp)
    have h2 := hm p (by simp)
    have h3 := hm q (by simp)
    have e : (cl l node (p :: q :: ps) n).flatMap (fun z => z.f4) = trace_Got.got l node p.toNat (q.toNat - p.toNat) ++ (cl l node (q :: ps) n).flatMap (fun z => z.f4) := rfl
    rw [e, ih]
    have g := got_add l node p.toNat (q.toNat - p.toNat) (n - q.toNat)
    rw [show p.toNat + (q.toNat - p.toNat) = q.toNat by omega, show q.toNat - p.toNat + (n - q.toNat) = n - p.toNat by omega] at g
    exact g.symm
end Go.Proofs.Ytmdnmofcgmmfbaa.TraceLib
