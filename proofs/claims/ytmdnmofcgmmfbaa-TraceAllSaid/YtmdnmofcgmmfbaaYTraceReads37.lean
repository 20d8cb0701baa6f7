import Derived.Test.YtmdnmofcgmmfbaaYTraceReads35
import Derived.Test.YtmdnmofcgmmfbaaYTraceReads14
import Derived.Test.YtmdnmofcgmmfbaaYTraceReads21
import Derived.Test.YtmdnmofcgmmfbaaYTraceReads23
import Derived.Test.YtmdnmofcgmmfbaaYTraceReads27
import Derived.Test.YtmdnmofcgmmfbaaYTraceReads29
import Derived.Test.YtmdnmofcgmmfbaaYTraceReads36
import Derived.Test.YtmdnmofcgmmfbaaYTraceReads28
set_option linter.unusedVariables false
set_option linter.unusedSimpArgs false
namespace Go.Proofs.Ytmdnmofcgmmfbaa.TraceLib
open Go Go.RowKit Go.Proofs.Ytmdnmofcgmmfbaa.T Go.Proofs.YtmdnmofcgmmfbaaW.PrintWords Go.Proofs.YtmdnmofcgmmfbaaW.PrintMore Go.Proofs.Ytmdnmofcgmmfbaa.EvL
abbrev Rows := List (List S28)
abbrev rep := trace_ticks.rep
def Few (l : Rows) : Prop := l.length ≤ 200 ∧ ∀ (x : Nat) (node : Int), x < l.length → (rep l x node).f6.length ≤ 40
theorem few_row {l : Rows} {x : Nat} (h : ∀ j : Nat, j < (rd_L6 l (x : Int)).length → (rd_T28 (rd_L6 l (x : Int)) (j : Int)).f6.length ≤ 40) (node : Int) : (rep l x node).f6.length ≤ 40 := by
  unfold rep trace_ticks.rep
  by_cases hn : 0 ≤ node ∧ node < ((rd_L6 l (x : Int)).length : Int)
  · rw [if_pos hn]
    obtain ⟨j, rfl⟩ := Int.eq_ofNat_of_zero_le hn.1
    exact h j (by have := hn.2; omega)
  · rw [if_neg hn]
    exact Nat.zero_le _
theorem few_l1 (l : Rows) (hl : l.length ≤ 200) (i : Nat) (hi : i < l.length) (h20 : (rd_L6 l (i : Int)).length ≤ 20) (P : Bool → Prop) (hn : ∀ b, Ev (fun k => r36Few.l0 k l ((i + 1 : Nat) : Int)) b → (∀ j : Nat, j < (rd_L6 l (i : Int)).length → (rd_T28 (rd_L6 l (i : Int)) (j : Int)).f6.length ≤ 40) → P b) (hf : P false)
    (h0 : ∃ b, Ev (fun k => r36Few.l0 k l ((i + 1 : Nat) : Int)) b) : ∀ (q j : Nat), j + q = (rd_L6 l (i : Int)).length → (∀ j' : Nat, j' < j → (rd_T28 (rd_L6 l (i : Int)) (j' : Int)).f6.length ≤ 40) → ∃ b, Ev (fun k => r36Few.l1 k l (i : Int) (j : Int)) b ∧ P b
  | 0, j, hj, hd => by
    obtain ⟨b, hb⟩ := h0
    refine ⟨b, Ev.step (fun k => r36Few.l1.eq_2 ..) (Ev.pos (by omega) (Ev.pos (by omega) (Ev.neg (by omega) ?_))), hn b hb (fun j' hj' => hd j' (by omega))⟩
    rw [EvL.wrap_small (by omega) (by omega)]
    exact hb
  | q + 1, j, hj, hd => by
    by_cases h : (((rd_T28 (rd_L6 l (i : Int)) (j : Int)).f6).length : Int) > 40
    · exact ⟨false, Ev.step (fun k => r36Few.l1.eq_2 ..) (Ev.pos (by omega) (Ev.pos (by omega) (Ev.pos (by omega) (Ev.pos (by omega) (Ev.pos h (Ev.val rfl)))))), hf⟩
    · obtain ⟨b, hb, hp⟩ := few_l1 l hl i hi h20 P hn hf h0 q (j + 1) (by omega) (fun j' hj' => by
        rcases Nat.lt_or_ge j' j with h1 | h1
        · exact hd j' h1
        · obtain rfl : j' = j := by omega
          omega)
      refine ⟨b, Ev.step (fun k => r36Few.l1.eq_2 ..) (Ev.pos (by omega) (Ev.pos (by omega) (Ev.pos (by omega) (Ev.pos (by omega) (Ev.neg h ?_))))), hp⟩
      rw [EvL.wrap_small (by omega) (by omega)]
      exact hb
theorem few_l0 (l : Rows) (hl : l.length ≤ 200) : ∀ (q i : Nat), i + q = l.length → ∃ b, Ev (fun k => r36Few.l0 k l (i : Int)) b ∧ (b = true → ∀ x : Nat, i ≤ x → x < l.length → ∀ j : Nat, j < (rd_L6 l (x : Int)).length → (rd_T28 (rd_L6 l (x : Int)) (j : Int)).f6.length ≤ 40)
  | 0, i, hi => ⟨true, Ev.step (fun k => r36Few.l0.eq_2 ..) (Ev.neg (by omega) (Ev.val rfl)), fun _ x h1 h2 => by omega⟩
  | q + 1, i, hi => by
    obtain ⟨b, hb, hp⟩ := few_l0 l hl q (i + 1) (by omega)
    by_cases h : ((rd_L6 l (i : Int)).length : Int) > 20
    · exact ⟨false, Ev.step (fun k => r36Few.l0.eq_2 ..) (Ev.pos (by omega) (Ev.pos (by omega) (Ev.pos h (Ev.val rfl)))), fun h => by cases h⟩
    · obtain ⟨b', hb', hp'⟩ := few_l1 l hl i (by omega) (by omega) (fun b' => b' = true → ∀ x : Nat, i ≤ x → x < l.length → ∀ j : Nat, j < (rd_L6 l (x : Int)).length → (rd_T28 (rd_L6 l (x : Int)) (j : Int)).f6.length ≤ 40)
        (fun b2 h2 h3 e => by
          obtain ⟨K1, hK1⟩ := hb
          obtain ⟨K2, hK2⟩ := h2
          have e1 := hK1 (K1 + K2) (by omega)
          have e2 := hK2 (K1 + K2) (by omega)
          rw [e1] at e2
          obtain rfl := Option.some.inj e2
          intro x h4 h5
          rcases Nat.lt_or_ge i x with h6 | h6
          · exact hp e x (by omega) h5
          · obtain rfl : x = i := by omega
            exact h3) (fun e => by cases e) ⟨b, hb⟩ (rd_L6 l (i : Int)).length 0 (by omega) (fun j' hj' => by omega)
      exact ⟨b', Ev.step (fun k => r36Few.l0.eq_2 ..) (Ev.pos (by omega) (Ev.pos (by omega) (Ev.neg h hb'))), hp'⟩
theorem few_ev (l : Rows) : ∃ b, Ev (fun k => r36Few.f k l 200) b ∧ (b = true → Few l) := by
  by_cases h : (l.length : Int) > 200
  · exact ⟨false, Ev.congr (fun k => r36Few.f.eq_1 ..) (Ev.pos h (Ev.val rfl)), fun e => by cases e⟩
  · obtain ⟨b, hb, hp⟩ := few_l0 l (by omega) l.length 0 (by omega)
    exact ⟨b, Ev.congr (fun k => r36Few.f.eq_1 ..) (Ev.neg h hb), fun e => ⟨by omega, fun x node hx => few_row (hp e x (Nat.zero_le _) hx) node⟩⟩
def tup (r : S28) : Bool × Bool × Int × Int × ByteArray × Int × (List S53) := (r.f0, r.f1, r.f2, r.f3, r.f4, r.f5, r.f6)
theorem at_in (l : Rows) (x : Nat) (hx : x < l.length) (node : Int) : r36At.f l (x : Int) node = some (tup (rep l x node)) := by
  unfold r36At.f rep trace_ticks.rep
  rw [if_neg (by omega), if_neg (by omega)]
  by_cases h3 : node < 0
  · rw [if_pos h3, if_neg (by omega)]
    rfl
  · rw [if_neg h3, if_pos (by omega), if_pos (by omega)]
    by_cases h4 : node ≥ ((rd_L6 l (x : Int)).length : Int)
    · rw [if_pos h4, if_neg (by omega)]
      rfl
    · rw [if_neg h4, if_pos (by omega), if_pos (by omega), if_pos (by omega)]
      rfl
theorem at_some (l : Rows) (t node : Int) : ∃ r, trace_At.f l t node = some r ∧ r36At.f l t node = some r ∧ (Few l → r.2.2.2.2.2.2.length ≤ 40) := by
  have hsame : trace_At.f l t node = r36At.f l t node := rfl
  rw [hsame]
  by_cases h0 : 0 ≤ t ∧ t < l.length
  · obtain ⟨x, rfl⟩ := Int.eq_ofNat_of_zero_le h0.1
    exact ⟨_, at_in l x (by omega) node, at_in l x (by omega) node, fun h => h.2 x node (by omega)⟩
  · have e : r36At.f l t node = some (false, false, 0, 0, (⟨#[]⟩ : ByteArray), 0, ([] : List S53)) := by
      unfold r36At.f
      by_cases h1 : t < 0
      · rw [if_pos h1]
      · rw [if_neg h1, if_pos (by omega)]
    exact ⟨_, e, e, fun _ => Nat.zero_le _⟩
theorem ints_same (a : List Int) (ha : a.length ≤ 1000000) : Ev (fun k => r06Ints.f k a a) true := by
  have loop : ∀ (q i : Nat), i + q = a.length → Ev (fun k => r06Ints.l0 k a a (i : Int)) true := by
    intro q
    induction q with
    | zero => intro i hi; exact Ev.step (fun k => r06Ints.l0.eq_2 ..) (Ev.neg (by omega) (Ev.val rfl))
    | succ q ih =>
      intro i hi
      refine Ev.step (fun k => r06Ints.l0.eq_2 ..) (Ev.pos (by omega) (Ev.pos (by omega) (Ev.pos (by omega) (Ev.pos rfl ?_))))
      rw [EvL.wrap_small (by omega) (by omega)]
      exact ih (i + 1) (by omega)
  exact Ev.congr (fun k => r06Ints.f.eq_1 ..) (Ev.pos rfl (loop a.length 0 (by omega)))
theorem delivers_same (a : List S53) (ha : a.length ≤ 1000000) : Ev (fun k => r24Same.f k a a) true := by
  have loop : ∀ (q i : Nat), i + q = a.length → Ev (fun k => r24Same.l0 k a a (i : Int)) true := by
    intro q
    induction q with
    | zero => intro i hi; exact Ev.step (fun k => r24Same.l0.eq_2 ..) (Ev.neg (by omega) (Ev.val rfl))
    | succ q ih =>
      intro i hi
      refine Ev.step (fun k => r24Same.l0.eq_2 ..) (Ev.pos (by omega) (Ev.pos (by omega) (Ev.pos (by omega) (Ev.neg (by simp) ?_))))
      rw [EvL.wrap_small (by omega) (by omega)]
      exact ih (i + 1) (by omega)
  exact Ev.congr (fun k => r24Same.f.eq_1 ..) (Ev.pos rfl (loop a.length 0 (by omega)))
theorem reports_same (r : Bool × Bool × Int × Int × ByteArray × Int × (List S53)) (h : r.2.2.2.2.2.2.length ≤ 40) : Ev (fun k => r27Same.f k r.1 r.2.1 r.2.2.1 r.2.2.2.1 r.2.2.2.2.1 r.2.2.2.2.2.1 r.2.2.2.2.2.2 r.1 r.2.1 r.2.2.1 r.2.2.2.1 r.2.2.2.2.1 r.2.2.2.2.2.1 r.2.2.2.2.2.2) true :=
  Ev.congr (fun k => r27Same.f.eq_1 ..) (Ev.pos (by simp) (Ev.pos (by simp) (Ev.pos rfl (Ev.pos rfl (Ev.pos rfl (Ev.pos rfl (Ev.bind (delivers_same _ (by omega)) (Ev.val rfl))))))))
theorem cycles_same (a : List S40) (ha : a.length ≤ 1000000) (hz : ∀ z ∈ a, z.f4.length ≤ 1000000) : Ev (fun k => r36Same.f k a a) true := by
  have loop : ∀ (q i : Nat), i + q = a.length → Ev (fun k => r36Same.l0 k a a (i : Int)) true := by
    intro q
    induction q with
    | zero => intro i hi; exact Ev.step (fun k => r36Same.l0.eq_2 ..) (Ev.neg (by omega) (Ev.val rfl))
    | succ q ih =>
      intro i hi
      have hm : (rd_T40 a (i : Int)).f4.length ≤ 1000000 := by
        have e : rd_T40 a (i : Int) = a[i] := by simp [rd_T40, List.getD_eq_getElem?_getD, List.getElem?_eq_getElem (show i < a.length by omega)]
        rw [e]
        exact hz _ (List.getElem_mem _)
      refine Ev.step (fun k => r36Same.l0.eq_2 ..) (Ev.pos (by omega) (Ev.pos (by omega) (Ev.pos (by omega) (Ev.pos rfl (Ev.pos rfl (Ev.pos rfl (Ev.neg (by simp) (Ev.bind (delivers_same _ hm) (Ev.pos rfl ?_)))))))))
      rw [EvL.wrap_small (by omega) (by omega)]
      exact ih (i + 1) (by omega)
  exact Ev.congr (fun k => r36Same.f.eq_1 ..) (Ev.pos rfl (loop a.length 0 (by omega)))
theorem picks_succ (P : S28 → Bool) (l : Rows) (node : Int) (n : Nat) : trace_when.picks P l node (n + 1) = if P (rep l n node) then trace_when.picks P l node n ++ [(n : Int)] else trace_when.picks P l node n := by
  unfold trace_when.picks
  rw [List.range_succ, List.filter_append, List.map_append]
  by_cases h : P (trace_ticks.rep l n node) = true
  · rw [if_pos (show P (rep l n node) = true from h)]
    simp [h]
  · rw [if_neg (show ¬ P (rep l n node) = true from h)]
    simp [h]
theorem picks_len (P : S28 → Bool) (l : Rows) (node : Int) (n : Nat) : (trace_when.picks P l node n).length ≤ n := by
  unfold trace_when.picks
  rw [List.length_map]
  exact Nat.le_trans (List.length_filter_le _ _) (by simp)
theorem ref_pulses (l : Rows) (hl : l.length ≤ 200) (node : Int) : Ev (fun k => r36Pulses.f k l node) (trace_when.picks (fun r => r.f0) l node l.length) := by
  have loop : ∀ (q i : Nat), i + q = l.length → Ev (fun k => r36Pulses.l0 k l node (trace_when.picks (fun r => r.f0) l node i) (i : Int)) (trace_when.picks (fun r => r.f0) l node l.length) := by
    intro q
    induction q with
    | zero =>
      intro i hi
      obtain rfl : i = l.length := by omega
      exact Ev.step (fun k => r36Pulses.l0.eq_2 ..) (Ev.neg (by omega) (Ev.val rfl))
    | succ q ih =>
      intro i hi
      have hp := picks_len (fun r => r.f0) l node i
      have h1 := ih (i + 1) (by omega)
      rw [picks_succ] at h1
      refine Ev.step (fun k => r36Pulses.l0.eq_2 ..) (Ev.pos (by omega) (Ev.some_ (at_in l i (by omega) node) ?_))
      rw [EvL.wrap_small (by omega) (by omega)]
      by_cases h : (rep l i node).f0 = true
      · rw [if_pos h] at h1
        exact Ev.pos h (Ev.pos (by omega) h1)
      · rw [if_neg h] at h1
        exact Ev.neg h h1
  exact Ev.congr (fun k => r36Pulses.f.eq_1 ..) (loop l.length 0 (by omega))
theorem ref_sent (l : Rows) (hl : l.length ≤ 200) (node : Int) : Ev (fun k => r36Sent.f k l node) (trace_when.picks (fun r => decide (0 < r.f5)) l node l.length) := by
  have loop : ∀ (q i : Nat), i + q = l.length → Ev (fun k => r36Sent.l0 k l node (trace_when.picks (fun r => decide (0 < r.f5)) l node i) (i : Int)) (trace_when.picks (fun r => decide (0 < r.f5)) l node l.length) := by
    intro q
    induction q with
    | zero =>
      intro i hi
      obtain rfl : i = l.length := by omega
      exact Ev.step (fun k => r36Sent.l0.eq_2 ..) (Ev.neg (by omega) (Ev.val rfl))
    | succ q ih =>
      intro i hi
      have hp := picks_len (fun r => decide (0 < r.f5)) l node i
      have h1 := ih (i + 1) (by omega)
      rw [picks_succ] at h1
      refine Ev.step (fun k => r36Sent.l0.eq_2 ..) (Ev.pos (by omega) (Ev.some_ (at_in l i (by omega) node) ?_))
      rw [EvL.wrap_small (by omega) (by omega)]
      by_cases h : (rep l i node).f5 > 0
      · rw [if_pos (by simpa using h)] at h1
        exact Ev.pos h (Ev.pos (by omega) h1)
      · rw [if_neg (by simpa using h)] at h1
        exact Ev.neg h h1
  exact Ev.congr (fun k => r36Sent.f.eq_1 ..) (loop l.length 0 (by omega))
theorem got_succ (l : Rows) (node : Int) (lo n : Nat) : trace_Got.got l node lo (n + 1) = trace_Got.got l node lo n ++ (rep l (lo + n) node).f6 := by simp [trace_Got.got, List.range_succ]
theorem got_len {l : Rows} (h : Few l) (node : Int) (lo : Nat) : ∀ n, lo + n ≤ l.length → (trace_Got.got l node lo n).length ≤ n * 40
  | 0, _ => by simp [trace_Got.got]
  | n + 1, hn => by
    have h1 := got_len h node lo n (by omega)
    have h2 := h.2 (lo + n) node (by omega)
    rw [got_succ, List.length_append]
    omega
theorem got_add (l : Rows) (node : Int) (lo n : Nat) : ∀ m, trace_Got.got l node lo (n + m) = trace_Got.got l node lo n ++ trace_Got.got l node (lo + n) m
  | 0 => by simp [trace_Got.got]
  | m + 1 => by rw [← Nat.add_assoc, got_succ, got_add l node lo n m, got_succ, List.append_assoc, Nat.add_assoc]
theorem ref_got {l : Rows} (hf : Few l) (node fr to_ : Int) : Ev (fun k => r36Got.f k l node fr to_) (trace_Got.got l node fr.toNat ((min to_ (l.length : Int)).toNat - fr.toNat)) := by
  have hl := hf.1
  obtain ⟨hi, hhi⟩ : ∃ hi, (min to_ (l.length : Int)).toNat = hi := ⟨_, rfl⟩
  obtain ⟨lo, hlo⟩ : ∃ lo, fr.toNat = lo := ⟨_, rfl⟩
  have loop : ∀ (q n : Nat), lo + n + q = hi → Ev (fun k => r36Got.l0 k l node to_ (trace_Got.got l node lo n) ((lo + n : Nat) : Int)) (trace_Got.got l node lo (hi - lo)) := by
    intro q
    induction q with
    | zero =>
      intro n hn
      obtain rfl : n = hi - lo := by omega
      refine Ev.step (fun k => r36Got.l0.eq_2 ..) ?_
      by_cases h1 : (((lo + (hi - lo) : Nat)) : Int) < to_
      · exact Ev.pos h1 (Ev.neg (by omega) (Ev.val rfl))
      · exact Ev.neg h1 (Ev.val rfl)
    | succ q ih =>
      intro n hn
      have h1 := ih (n + 1) (by omega)
      have h2 := got_len hf node lo n (by omega)
      have h3 := hf.2 (lo + n) node (by omega)
      rw [got_succ] at h1
      refine Ev.step (fun k => r36Got.l0.eq_2 ..) (Ev.pos (by omega) (Ev.pos (by omega) (Ev.some_ (at_in l (lo + n) (by omega) node) (Ev.pos ?_ ?_))))
      · show (trace_Got.got l node lo n).length + (rep l (lo + n) node).f6.length < _
        omega
      · rw [EvL.wrap_small (by omega) (by omega)]
        exact h1
  have e : mx fr 0 = (lo : Int) := by
    unfold mx
    split <;> omega
  rw [hhi, hlo]
  refine Ev.congr (fun k => r36Got.f.eq_1 ..) ?_
  rw [e]
  rcases Nat.lt_or_ge lo hi with h | h
  · exact loop (hi - lo) 0 (by omega)
  · refine Ev.step (fun k => r36Got.l0.eq_2 ..) ?_
    have e0 : hi - lo = 0 := by omega
    rw [e0]
    by_cases h1 : (lo : Int) < to_
    · exact Ev.pos h1 (Ev.neg (by omega) (Ev.val rfl))
    · exact Ev.neg h1 (Ev.val rfl)
theorem got_ok {l : Rows} (hf : Few l) (node : Int) : trace_Got.ok l node := ⟨by have := hf.1; omega, fun x hx => by have := hf.2 x node hx; show (rep l x node).f6.length ≤ _; omega⟩
theorem got_at {l : Rows} (hf : Few l) (node fr to_ : Int) : trace_Got.f l node fr to_ = some (trace_Got.got l node fr.toNat ((min to_ (l.length : Int)).toNat - fr.toNat)) := if_pos (got_ok hf node)
theorem got_small {l : Rows} (hf : Few l) (node fr to_ : Int) : (trace_Got.got l node fr.toNat ((min to_ (l.length : Int)).toNat - fr.toNat)).length ≤ 8000 := by
  have hl := hf.1
  rcases Nat.lt_or_ge fr.toNat (min to_ (l.length : Int)).toNat with h | h
  · have := got_len hf node fr.toNat ((min to_ (l.length : Int)).toNat - fr.toNat) (by omega)
    omega
  · rw [Nat.sub_eq_zero_of_le h]
    simp [trace_Got.got]
end Go.Proofs.Ytmdnmofcgmmfbaa.TraceLib
