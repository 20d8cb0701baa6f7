import Derived.Laws.AppendOwn
import Derived.Maps.AppendAt
import Derived.Test.YthblnnboeikgcaaYBeatSettles4
set_option maxHeartbeats 4000000
set_option maxRecDepth 100000
section
set_option linter.unusedVariables false
set_option linter.unusedSimpArgs false
namespace Go.Proofs.Ythblnnboeikgcaa.Queue
open Go Go.RowKit Go.Proofs.YthblnnboeikgcaaW.PrintWords
def Q (e : TypeId) (W : World) (base : Nat) (v : Value) (L : List Int) : Prop :=
  (v = .slice none 0 0 ∧ L = []) ∨ ∃ g o cap, ∃ cur : Array Value, v = .slice (some ⟨g, o, none⟩) L.length cap ∧ base ≤ g ∧ W.heap[g]? = some (.cells cur e (0, 0)) ∧ L.length ≤ cap ∧ cap ≤ maxLen ∧ o + cap ≤ cur.size ∧ ∀ j, j < L.length → cur[o + j]? = some (.int .i64 (L.getD j 0))
theorem Q.nil (e : TypeId) (W : World) (base : Nat) : Q e W base (.slice none 0 0) [] := .inl ⟨rfl, rfl⟩
theorem Q.same {e : TypeId} {W W' : World} {base : Nat} {v : Value} {L : List Int} (h : Q e W base v L) (hs : ∀ g, v.ownBlock = some g → g < W.heap.size → W'.heap[g]? = W.heap[g]?) : Q e W' base v L := by
  rcases h with h | ⟨g, o, cap, cur, rfl, hb, hg, h1, h2, h3, h4⟩
  · exact .inl h
  · exact .inr ⟨g, o, cap, cur, rfl, hb, (hs g rfl (Array.getElem?_eq_some_iff.1 hg).1).trans hg, h1, h2, h3, h4⟩
theorem Q.base {e : TypeId} {W : World} {base : Nat} {v : Value} {L : List Int} (h : Q e W base v L) : ∀ g, v.ownBlock = some g → base ≤ g := by
  intro g hg
  rcases h with ⟨rfl, _⟩ | ⟨g', o, cap, cur, rfl, hb, _⟩
  · simp [Value.ownBlock] at hg
  · have : g' = g := by simpa [Value.ownBlock] using hg
    omega
theorem Q.block {e : TypeId} {W : World} {base : Nat} {v : Value} {L : List Int} (h : Q e W base v L) : ∀ g, v.ownBlock = some g → ∃ cur, W.heap[g]? = some (.cells cur e (0, 0)) := by
  intro g hg
  rcases h with ⟨rfl, _⟩ | ⟨g', o, cap, cur, rfl, hb, hh, _⟩
  · simp [Value.ownBlock] at hg
  · have : g' = g := by simpa [Value.ownBlock] using hg
    subst this
    exact ⟨cur, hh⟩
theorem Q.open_cons {e : TypeId} {W : World} {base : Nat} {v : Value} {x : Int} {L : List Int} (h : Q e W base v (x :: L)) : ∃ g o cap, v = .slice (some ⟨g, o, none⟩) (L.length + 1) cap ∧ L.length + 1 ≤ cap ∧ cap ≤ maxLen ∧ W.cell? ⟨g, o, none⟩ = some (.int .i64 x) ∧ Q e W base (.slice (some ⟨g, if cap = 1 then o else o + 1, none⟩) L.length (cap - 1)) L := by
  rcases h with ⟨_, h⟩ | ⟨g, o, cap, cur, rfl, hb, hg, h1, h2, h3, h4⟩
  · cases h
  · rw [List.length_cons] at h1 h4
    refine ⟨g, o, cap, rfl, h1, h2, ?_, .inr ⟨g, _, cap - 1, cur, rfl, hb, hg, by omega, by omega, ?_, ?_⟩⟩
    · have := h4 0 (by omega)
      simp only [World.cell?, hg]
      exact this
    · split <;> omega
    · intro j hj
      rw [if_neg (by omega), show o + 1 + j = o + (j + 1) by omega]
      exact h4 (j + 1) (by omega)
section
variable {P : Program}
theorem append_one (t ty e : TypeId) (i : TypeInfo) (z : Value) (ht : P.underlying t = some (.slice e)) (hi : P.info? e = some i) (hz : i.zero = some z) (hsize : i.size = 1) (hby : i.bytes = 8) (hzs : z.cells.size = 1)
    {W : World} {base : Nat} {v : Value} {L : List Int} (h : Q e W base v L) (a : Addr) (x : Int) (hx : W.cell? a = some (.int .i64 x)) (hl : L.length ≤ 1000000) (hbase : base ≤ W.heap.size) :
    ∃ v' W', (Builtin.append_ #[t, t] ty #[v, .slice (some a) 1 1]).run P W = .ok v' W' ∧ Q e W' base v' (L ++ [x]) ∧ W.grownBy W' v.ownBlock ∧ (v'.ownBlock = v.ownBlock ∨ v'.ownBlock = some W.heap.size) := by
  have hnews : ∀ j u, [Value.int .i64 x][j]? = some u → W.cell? (a.add j) = some u := by
    intro j u hj
    cases j with
    | zero =>
      simp at hj
      subst hj
      simpa [Addr.add] using hx
    | succ j => simp at hj
  have h1 : ∀ u ∈ [Value.int .i64 x], u.oneCell' = true := by
    intro u hu
    simp at hu
    subst hu
    rfl
  have fresh : ∀ (old : Nat), old < L.length + 1 → Q e (W.drew.alloc (.cells ((L.map (Value.int .i64)).toArray ++ [Value.int .i64 x].toArray ++ Builtin.zeroCells z.cells (grownCap W (L.length + 1) old e - (L.length + 1))) e)) base (.slice (some ⟨W.heap.size, 0, none⟩) (L.length + 1) (grownCap W (L.length + 1) old e)) (L ++ [x]) := by
    intro old ho
    have hge := grownCap_ge W (L.length + 1) old e
    have hcm : grownCap W (L.length + 1) old e ≤ maxLen := grownCap_le_maxLen W (L.length + 1) old e (by simp only [maxLen]; omega)
    refine .inr ⟨W.heap.size, 0, _, _, by simp, hbase, heap_alloc_new W.drew _, by simpa using hge, hcm, ?_, ?_⟩
    · simp only [Array.size_append, List.size_toArray, List.length_map, List.length_cons, List.length_nil, size_zeroCells, hzs]
      omega
    · intro j hj
      have hj2 : j < L.length + 1 := by simpa using hj
      rw [Nat.zero_add, Array.getElem?_append_left (by simp; omega), List.append_toArray, List.getElem?_toArray, show L.map (Value.int .i64) ++ [Value.int .i64 x] = (L ++ [x]).map (Value.int .i64) by simp, List.getElem?_map, List.getD_eq_getElem?_getD, List.getElem?_eq_getElem hj]
      rfl
  rcases h with ⟨rfl, rfl⟩ | ⟨g, o, cap, cur, rfl, hb, hg, h2, h3, h4, h5⟩
  · have hr := run_append_nil (P := P) W t ty e i z ht hi hz a 1 1 [.int .i64 x] (by simp [hsize]) hnews (by omega) (by omega) (by rw [hby]; omega)
    have := fresh 0 (by simp)
    simp only [List.map_nil, List.length_nil, Nat.zero_add, List.nil_append] at this
    refine ⟨_, _, hr, ?_, ⟨rfl, rfl, rfl, by simp, fun k hk _ => Below.heap_alloc W.drew _ k hk⟩, .inr rfl⟩
    simpa using this
  · by_cases hroom : L.length + 1 ≤ cap
    · have hf := run_firstCells_some (P := P) W i.size 1 a 1 1 [.int .i64 x] (by simp [hsize]) hnews
      have hst := run_storeCells_at P g (o + L.length) e [.int .i64 x] 0 cur W hg (by simp; omega) h1
      have hr : (Builtin.append_ #[t, t] ty #[.slice (some ⟨g, o, none⟩) L.length cap, .slice (some a) 1 1]).run P W = .ok (.slice (some ⟨g, o, none⟩) (L.length + 1) cap) (W.setRow g (cur.toList.take (o + L.length) ++ [Value.int .i64 x] ++ cur.toList.drop (o + L.length + 1)).toArray) := by
        simp only [Nat.add_zero] at hst
        rw [hsize] at hf
        simp [Builtin.append_, run_underlying ht, sizeOf, typeInfo, hi, Builtin.lenOf, hroom, hf, Addr.add_lit, hst, hsize]
      have hlt := (Array.getElem?_eq_some_iff.1 hg).1
      refine ⟨_, _, hr, .inr ⟨g, o, cap, _, by simp, hb, setRow_heap W g cur _ e _ hg, by simpa using hroom, h3, ?_, ?_⟩, ⟨rfl, rfl, rfl, by simp, fun k _ hk => setRow_other W g k _ (fun e => hk (by simp [Value.ownBlock, e]))⟩, .inl rfl⟩
      · simp only [List.size_toArray, List.length_append, List.length_take, List.length_drop, Array.length_toList, List.length_cons, List.length_nil]
        omega
      · intro j hj
        have hj2 : j < L.length + 1 := by simpa using hj
        rw [List.getElem?_toArray, List.append_assoc]
        have ht : (cur.toList.take (o + L.length)).length = o + L.length := by have h9 : cur.toList.length = cur.size := Array.length_toList; rw [List.length_take]; omega
        by_cases hjl : j < L.length
        · rw [List.getElem?_append_left (by rw [ht]; omega), List.getElem?_take, if_pos (by omega), Array.getElem?_toList, h5 j hjl]
          simp [List.getD_eq_getElem?_getD, List.getElem?_append_left hjl]
        · obtain rfl : j = L.length := by omega
          rw [List.getElem?_append_right (by rw [ht]; omega), ht]
          simp [List.getD_eq_getElem?_getD]
    · have hr := run_append_grow (P := P) W t ty e i z ht hi hz ⟨g, o, none⟩ L.length cap (L.map (Value.int .i64)) (by simp [hsize]) (fun j u hj => by
          have hjl : j < L.length := by
            rcases Nat.lt_or_ge j L.length with h9 | h9
            · exact h9
            · rw [List.getElem?_eq_none (by simpa using h9)] at hj
              cases hj
          have := h5 j hjl
          rw [Addr.add_lit]
          simp only [World.cell?, hg]
          rw [if_neg (by simp), this]
          simpa [List.getD_eq_getElem?_getD, hjl] using hj) a 1 1 [.int .i64 x] (by simp [hsize]) hnews (by omega) (by omega) (by rw [hby]; exact growslice_fits (by omega) (by omega))
      exact ⟨_, _, hr, fresh cap (by omega), ⟨rfl, rfl, rfl, by simp, fun k hk _ => Below.heap_alloc W.drew _ k hk⟩, .inr rfl⟩
theorem wpList_append_one {ops : Array Oper} {rest : List Oper} {o : Oper} {a : Act} {K : Exit → Act → World → Prop} (hgd : o.guard = none) (s x' : Operand) (t : TypeId)
    (ho : o.op = .call { callee := .builtin .append, args := #[s, x'], argTypes := #[t, t] })
    (e : TypeId) (i : TypeInfo) (z : Value) (ht : P.underlying t = some (.slice e)) (hi : P.info? e = some i) (hz : i.zero = some z) (hsize : i.size = 1) (hby : i.bytes = 8) (hzs : z.cells.size = 1)
    {W : World} {base : Nat} (v : Value) {L : List Int} (hs : a.eval s = v) (h : Q e W base v L) (ad : Addr) (x : Int) (hx' : a.eval x' = .slice (some ad) 1 1) (hx : W.cell? ad = some (.int .i64 x)) (hl : L.length ≤ 1000000) (hbase : base ≤ W.heap.size)
    (hc : ∀ v' W', Q e W' base v' (L ++ [x]) → W.grownBy W' v.ownBlock → (v'.ownBlock = v.ownBlock ∨ v'.ownBlock = some W.heap.size) → wpList P ops K rest (a.put o.dst v') W') : wpList P ops K (o :: rest) a W := by
  refine wpList_plain hgd fun K2 hK => ?_
  obtain ⟨v', W', hr, h2, h3, h4⟩ := append_one (P := P) t o.type e i z ht hi hz hsize hby hzs h ad x hx hl hbase
  unfold Oper.wp execOp
  simp only [ho, resolve, invoke, builtin, Sem.run_bind, Sem.run_pure, Result.andThen_ok, List.map_toArray, List.map_cons, List.map_nil, hs, hx', hr]
  exact hK _ _ (hc v' W' h2 h3 h4)
end
theorem Q.snoc_slice {e : TypeId} {W : World} {base : Nat} {v : Value} {x : Int} {L : List Int} (h : Q e W base v (L ++ [x])) : ∃ g o cap, v = .slice (some ⟨g, o, none⟩) (L.length + 1) cap := by
  rcases h with ⟨_, h⟩ | ⟨g, o, cap, cur, rfl, _⟩
  · simp at h
  · exact ⟨g, o, cap, by simp⟩
theorem Q.slice {e : TypeId} {W : World} {base : Nat} {v : Value} {L : List Int} (h : Q e W base v L) : ∃ A cap, v = .slice A L.length cap := by
  rcases h with ⟨rfl, rfl⟩ | ⟨g, o, cap, cur, rfl, _⟩
  · exact ⟨none, 0, rfl⟩
  · exact ⟨_, _, rfl⟩
structure Keeps (W W' : World) (B : Nat) (v : Value) : Prop where
  os : W'.os = W.os
  tape : W'.tape = W.tape
  output : W'.output = W.output
  size : W.heap.size ≤ W'.heap.size
  block : ∀ b, b < W.heap.size → b ≠ B → v.ownBlock ≠ some b → W'.heap[b]? = W.heap[b]?
theorem Keeps.refl (W : World) (B : Nat) (v : Value) : Keeps W W B v := ⟨rfl, rfl, rfl, Nat.le_refl _, fun _ _ _ _ => rfl⟩
theorem Keeps.then {W W1 W2 : World} {B : Nat} {v : Value} (h : Keeps W W1 B v) (k : Below W1.heap.size W1 W2) : Keeps W W2 B v :=
  ⟨k.os.trans h.os, k.tape.trans h.tape, k.output.trans h.output, Nat.le_trans h.size k.size, fun b hb hB hv => (k.block b (Nat.lt_of_lt_of_le hb h.size)).trans (h.block b hb hB hv)⟩
theorem Keeps.set {W W1 : World} {B : Nat} {v : Value} (h : Keeps W W1 B v) (j : Nat) (u : Value) : Keeps W (W1.setCell ⟨B, j, none⟩ u) B v :=
  ⟨h.os, h.tape, h.output, by simpa using h.size, fun b hb hB hv => (Below.heap_setCell _ _ _ b (fun e => hB e)).trans (h.block b hb hB hv)⟩
theorem Keeps.trans {W W1 W2 : World} {B : Nat} {v v' : Value} (h : Keeps W W1 B v) (k : Keeps W1 W2 B v') (hv : v'.ownBlock = v.ownBlock) : Keeps W W2 B v :=
  ⟨k.os.trans h.os, k.tape.trans h.tape, k.output.trans h.output, Nat.le_trans h.size k.size, fun b hb hB hvb => (k.block b (Nat.lt_of_lt_of_le hb h.size) hB (by rw [hv]; exact hvb)).trans (h.block b hb hB hvb)⟩
theorem Keeps.below {W W' : World} {B n₀ : Nat} {v : Value} (h : Keeps W W' B v) (hB : n₀ ≤ B) (hv : ∀ g, v.ownBlock = some g → n₀ ≤ g) (hn : n₀ ≤ W.heap.size) : Below n₀ W W' :=
  ⟨h.os, h.tape, h.output, h.size, fun k hk => h.block k (Nat.lt_of_lt_of_le hk hn) (by omega) (fun e => by have := hv k e; omega)⟩
theorem setCell_blk {W : World} {B j : Nat} {cs : Array Value} {T : TypeId} (h : W.heap[B]? = some (.cells cs T (0, 0))) (u : Value) : (W.setCell ⟨B, j, none⟩ u).heap[B]? = some (.cells (cs.setIfInBounds j u) T (0, 0)) := by simp [World.setCell, Array.getElem?_modify, h]
theorem setCell_far {W : World} {B j b : Nat} (h : b ≠ B) (u : Value) : (W.setCell ⟨B, j, none⟩ u).heap[b]? = W.heap[b]? := Below.heap_setCell _ _ _ b (fun e => h e)
end Go.Proofs.Ythblnnboeikgcaa.Queue
end
section
namespace Go.Proofs.Ythblnnboeikgcaa.B
open Go.RowKit Go.Proofs.YthblnnboeikgcaaW.PrintWords Go.Proofs.YthblnnboeikgcaaW.PrintLast Go.Proofs.YthblnnboeikgcaaW.PrintMore
attribute [local go_sem] max2_int min2_int max_two min_two max_three min_three max_four min_four   -- for this text's walks alone
set_option linter.unusedVariables false
set_option linter.unusedSimpArgs false
theorem beat_ends_begin.calls {W : World} {B : Nat} {cs : Array Value} {T : TypeId} {base : Nat} {v : Value} {L : List Int} (x : Int) (hB : W.heap[B]? = some (.cells cs T (0, 0))) (h0 : cs[0]? = some v) (hQ : Ythblnnboeikgcaa.Queue.Q 3 W base v L) (hl : L.length ≤ 1000000) (hbase : base ≤ W.heap.size) (hne : v.ownBlock ≠ some B) :
    Calls Try.prog 102 #[.pointer (some ⟨B, 0, none⟩), .int .i64 x] W fun e W' => (∃ u, e = .returned u) ∧ ∃ v', W'.heap[B]? = some (.cells (cs.setIfInBounds 0 v') T (0, 0)) ∧ Ythblnnboeikgcaa.Queue.Q 3 W' base v' (L ++ [x]) ∧ (v'.ownBlock = v.ownBlock ∨ ∃ g, v'.ownBlock = some g ∧ W.heap.size ≤ g) ∧ Ythblnnboeikgcaa.Queue.Keeps W W' B v := by
  obtain ⟨i0, hi, hz0, hz1, hz2⟩ := info_parts info3
  obtain ⟨A, cap, rfl⟩ := hQ.slice
  have hb : W.cell? ⟨B, 0, none⟩ = some (.slice A L.length cap) := (blk_cell hB 0).trans h0
  have HB := Sd.mk hB
  have H0 := Sd.mk h0
  have HQ : Sd (Ythblnnboeikgcaa.Queue.Q 3 (W.alloc (.cells #[.int .i64 x] 3)) base (.slice A L.length cap) L) := ⟨hQ.same (fun g _ hlt => Below.heap_alloc W _ g hlt)⟩
  have hcn : (W.alloc (.cells #[.int .i64 x] 3)).cell? ⟨W.heap.size, 0, none⟩ = some (.int .i64 x) := (blk_cell (blk_new W _) 0).trans rfl
  have HCN := Sd.mk hcn
  clear hQ hB h0 hcn
  go_enter Try.func102, Try.ntmps102
  go_wp2_with (at_builtin; refine Ythblnnboeikgcaa.Queue.wpList_append_one rfl _ _ 22 rfl 3 i0 (.int .i64 0) Try.underlying22 hi hz0 hz1 hz2 rfl (.slice A L.length cap) rfl HQ.out ⟨W.heap.size, 0, none⟩ x rfl HCN.out hl (by rw [World.size_alloc]; exact Nat.le_succ_of_le hbase) ?_; intro v' w1 hQ1 hg1 hat1; obtain ⟨g', o', cap', rfl⟩ := hQ1.snoc_slice; have hlt := (Array.getElem?_eq_some_iff.1 HB.out).1; have hB1 : w1.heap[B]? = some (.cells cs T (0, 0)) := (hg1.block B (by rw [World.size_alloc]; exact Nat.lt_succ_of_lt hlt) (fun e => hne e.symm)).trans ((Below.heap_alloc W _ B hlt).trans HB.out); have hc1 := (blk_cell hB1 0).trans H0.out; have hf1 := blk_frozen hB1 0)
  have hgB : ∀ g, (Value.slice (some (⟨g', o', none⟩ : Addr)) (L.length + 1) cap').ownBlock = some g → g ≠ B := by
    intro g hg e
    subst e
    rcases hat1 with h | h
    · rw [h] at hg
      exact hne hg
    · rw [h, World.size_alloc] at hg
      have := Option.some.inj hg
      omega
  have hsz := hg1.size
  rw [World.size_alloc] at hsz
  go_end0
  refine ⟨⟨_, rfl⟩, _, Ythblnnboeikgcaa.Queue.setCell_blk hB1 _, hQ1.same (fun g hg _ => Ythblnnboeikgcaa.Queue.setCell_far (hgB g hg) _), hat1.imp id (fun e => ⟨_, e, by rw [World.size_alloc]; exact Nat.le_succ _⟩), hg1.os, hg1.tape, hg1.output, ?_, ?_⟩
  · simp
    omega
  · intro b hb hbB hbv
    exact (Ythblnnboeikgcaa.Queue.setCell_far hbB _).trans ((hg1.block b (by rw [World.size_alloc]; exact Nat.lt_succ_of_lt hb) (fun e => hbv e.symm)).trans (Below.heap_alloc W _ b hb))
end Go.Proofs.Ythblnnboeikgcaa.B
end
section
namespace Go.Proofs.Ythblnnboeikgcaa.B
open Go.RowKit Go.Proofs.YthblnnboeikgcaaW.PrintWords Go.Proofs.YthblnnboeikgcaaW.PrintLast Go.Proofs.YthblnnboeikgcaaW.PrintMore
attribute [local go_sem] max2_int min2_int max_two min_two max_three min_three max_four min_four   -- for this text's walks alone
set_option linter.unusedVariables false
set_option linter.unusedSimpArgs false
theorem beat_ends_next.calls {W : World} {B : Nat} {cs : Array Value} {T : TypeId} {base : Nat} {v : Value} {x : Int} {L : List Int} (hB : W.heap[B]? = some (.cells cs T (0, 0))) (h0 : cs[0]? = some v) (hQ : Ythblnnboeikgcaa.Queue.Q 3 W base v (x :: L)) :
    Calls Try.prog 133 #[.pointer (some ⟨B, 0, none⟩)] W fun e W' => e = .returned (.int .i64 x) ∧ ∃ v', W' = W.setCell ⟨B, 0, none⟩ v' ∧ Ythblnnboeikgcaa.Queue.Q 3 W base v' L ∧ v'.ownBlock = v.ownBlock := by
  obtain ⟨g, o, cap, rfl, hc, hm, hx, hQ'⟩ := hQ.open_cons
  have hb : W.cell? ⟨B, 0, none⟩ = some (.slice (some ⟨g, o, none⟩) (L.length + 1) cap) := (blk_cell hB 0).trans h0
  have hf := blk_frozen hB 0
  have HQ := Sd.mk hQ'
  clear hQ' hQ hB h0
  have h1 : ((1 : Int) ≤ (L.length : Int) + 1) := by omega
  have h2 : ((L.length : Int) + 1 ≤ (cap : Int)) := by omega
  have h3 : (0 : Int) < (L.length : Int) + 1 := by omega
  by_cases e : cap = 1
  · subst e
    obtain rfl : L = [] := List.eq_nil_of_length_eq_zero (by omega)
    rw [if_pos rfl] at HQ
    go_enter Try.func133, Try.ntmps133
    go_wp2
    go_ret
    exact ⟨rfl, _, rfl, HQ.out, rfl⟩
  · rw [if_neg e] at HQ
    go_enter Try.func133, Try.ntmps133
    go_wp2
    go_ret
    exact ⟨rfl, _, rfl, HQ.out, rfl⟩
end Go.Proofs.Ythblnnboeikgcaa.B
end
