import Derived.Laws.AppendOwn
import Derived.Maps.AppendAt
import Derived.Test.YthblnnboeikgcaaYBeatSteps0
set_option linter.unusedVariables false
set_option linter.unusedSimpArgs false
namespace Go.Proofs.Ythblnnboeikgcaa.Queue
open Go Go.RowKit Go.Proofs.YthblnnboeikgcaaW.PrintWords
def Q (e : TypeId) (W : World) (base : Nat) (v : Value) (L : List Int) : Prop :=
  (v = .slice none 0 0 ∧ L = []) ∨ ∃ g o cap, ∃ cur : Array Value, v = .slice (some ⟨g, o, none⟩) L.length cap ∧ base ≤ g ∧ W.heap[g]? = some (.cells cur e (0, 0)) ∧ L.length ≤ cap ∧ cap ≤ maxLen ∧ o + cap ≤ cur.size ∧ ∀ j, j < L.length → cur[o + j]? = some (.int .i64 (L.getD j 0))
theorem Q.nil (e : TypeId) (W : World) (base : Nat) : Q e W base (.slice none 0 0) [] := .inl ⟨rfl, rfl⟩
theorem Q.same {e : TypeId} {W W' : World} {base : Nat} {v : Value} {L : List Int} (h : Q e W base v L) (hs : ∀ g, v.ownBlock = some g → g < W.heap.size → W'.heap[g]? = W.heap[g]?) : Q e W' base v L := by
  rcases h with h | ⟨g, o, cap, cur, rfl, hb, hg, h1, h2, h3, h4⟩
  · exact .inl h
  · exact .inr ⟨g, o, cap, cur, rfl, hb, (hs g rfl (Array.getElem?_eq_some_iff.1 hg).1).trans hg, h1, h2, h3, h4⟩
theorem Q.base {e : TypeId} {W : World} {base : Nat} {v : Value} {L : List Int} (h : Q e W base v L) : ∀ g, v.ownBlock = some g → base ≤ g := by
  intro g hg
  rcases h with ⟨rfl, _⟩ | ⟨g', o, cap, cur, rfl, hb, _⟩
  · simp [Value.ownBlock] at hg
  · have : g' = g := by simpa [Value.ownBlock] using hg
    omega
theorem Q.block {e : TypeId} {W : World} {base : Nat} {v : Value} {L : List Int} (h : Q e W base v L) : ∀ g, v.ownBlock = some g → ∃ cur, W.heap[g]? = some (.cells cur e (0, 0)) := by
  intro g hg
  rcases h with ⟨rfl, _⟩ | ⟨g', o, cap, cur, rfl, hb, hh, _⟩
  · simp [Value.ownBlock] at hg
  · have : g' = g := by simpa [Value.ownBlock] using hg
    subst this
    exact ⟨cur, hh⟩
theorem Q.open_cons {e : TypeId} {W : World} {base : Nat} {v : Value} {x : Int} {L : List Int} (h : Q e W base v (x :: L)) : ∃ g o cap, v = .slice (some ⟨g, o, none⟩) (L.length + 1) cap ∧ L.length + 1 ≤ cap ∧ cap ≤ maxLen ∧ W.cell? ⟨g, o, none⟩ = some (.int .i64 x) ∧ Q e W base (.slice (some ⟨g, if cap = 1 then o else o + 1, none⟩) L.length (cap - 1)) L := by
  rcases h with ⟨_, h⟩ | ⟨g, o, cap, cur, rfl, hb, hg, h1, h2, h3, h4⟩
  · cases h
  · rw [List.length_cons] at h1 h4
    refine ⟨g, o, cap, rfl, h1, h2, ?_, .inr ⟨g, _, cap - 1, cur, rfl, hb, hg, by omega, by omega, ?_, ?_⟩⟩
    · have := h4 0 (by omega)
      simp only [World.cell?, hg]
      exact this
    · split <;> omega
    · intro j hj
      rw [if_neg (by omega), show o + 1 + j = o + (j + 1) by omega]
      exact h4 (j + 1) (by omega)
section
variable {P : Program}
theorem append_one (t ty e : TypeId) (i : TypeInfo) (z : Value) (ht : P.underlying t = some (.slice e)) (hi : P.info? e = some i) (hz : i.zero = some z) (hsize : i.size = 1) (hby : i.bytes = 8) (hzs : z.cells.size = 1)
    {W : World} {base : Nat} {v : Value} {L : List Int} (h : Q e W base v L) (a : Addr) (x : Int) (hx : W.cell? a = some (.int .i64 x)) (hl : L.length ≤ 1000000) (hbase : base ≤ W.heap.size) :
    ∃ v' W', (Builtin.append_ #[t, t] ty #[v, .slice (some a) 1 1]).run P W = .ok v' W' ∧ Q e W' base v' (L ++ [x]) ∧ W.grownBy W' v.ownBlock ∧ (v'.ownBlock = v.ownBlock ∨ v'.ownBlock = some W.heap.size) := by
  have hnews : ∀ j u, [Value.int .i64 x][j]? = some u → W.cell? (a.add j) = some u := by
    intro j u hj
    cases j with
    | zero =>
      simp at hj
      subst hj
      simpa [Addr.add] using hx
    | succ j => simp at hj
  have h1 : ∀ u ∈ [Value.int .i64 x], u.oneCell' = true := by
    intro u hu
    simp at hu
    subst hu
    rfl
  have fresh : ∀ (old : Nat), old < L.length + 1 → Q e (W.drew.alloc (.cells ((L.map (Value.int .i64)).toArray ++ [Value.int .i64 x].toArray ++ Builtin.zeroCells z.cells (grownCap W (L.length + 1) old e - (L.length + 1))) e)) base (.slice (some ⟨W.heap.size, 0, none⟩) (L.length + 1) (grownCap W (L.length + 1) old e)) (L ++ [x]) := by
    intro old ho
    have hge := grownCap_ge W (L.length + 1) old e
    have hcm : grownCap W (L.length + 1) old e ≤ maxLen := grownCap_le_maxLen W (L.length + 1) old e (by simp only [maxLen]; omega)
    refine .inr ⟨W.heap.size, 0, _, _, by simp, hbase, heap_alloc_new W.drew _, by simpa using hge, hcm, ?_, ?_⟩
    · simp only [Array.size_append, List.size_toArray, List.length_map, List.length_cons, List.length_nil, size_zeroCells, hzs]
      omega
    · intro j hj
      have hj2 : j < L.length + 1 := by simpa using hj
      rw [Nat.zero_add, Array.getElem?_append_left (by simp; omega), List.append_toArray, List.getElem?_toArray, show L.map (Value.int .i64) ++ [Value.int .i64 x] = (L ++ [x]).map (Value.int .i64) by simp, List.getElem?_map, List.getD_eq_getElem?_getD, List.getElem?_eq_getElem hj]
      rfl
  rcases h with ⟨rfl, rfl⟩ | ⟨g, o, cap, cur, rfl, hb, hg, h2, h3, h4, h5⟩
  · have hr := run_append_nil (P := P) W t ty e i z ht hi hz a 1 1 [.int .i64 x] (by simp [hsize]) hnews (by omega) (by omega) (by rw [hby]; omega)
    have := fresh 0 (by simp)
    simp only [List.map_nil, List.length_nil, Nat.zero_add, List.nil_append] at this
    refine ⟨_, _, hr, ?_, ⟨rfl, rfl, rfl, by simp, fun k hk _ => Below.heap_alloc W.drew _ k hk⟩, .inr rfl⟩
    simpa using this
  · by_cases hroom : L.length + 1 ≤ cap
    · have hf := run_firstCells_some (P := P) W i.size 1 a 1 1 [.int .i64 x] (by simp [hsize]) hnews
      have hst := run_storeCells_at P g (o + L.length) e [.int .i64 x] 0 cur W hg (by simp; omega) h1
      have hr : (Builtin.append_ #[t, t] ty #[.slice (some ⟨g, o, none⟩) L.length cap, .slice (some a) 1 1]).run P W = .ok (.slice (some ⟨g, o, none⟩) (L.length + 1) cap) (W.setRow g (cur.toList.take (o + L.length) ++ [Value.int .i64 x] ++ cur.toList.drop (o + L.length + 1)).toArray) := by
        simp only [Nat.add_zero] at hst
        rw [hsize] at hf
        simp [Builtin.append_, run_underlying ht, sizeOf, typeInfo, hi, Builtin.lenOf, hroom, hf, Addr.add_lit, hst, hsize]
      have hlt := (Array.getElem?_eq_some_iff.1 hg).1
      refine ⟨_, _, hr, .inr ⟨g, o, cap, _, by simp, hb, setRow_heap W g cur _ e _ hg, by simpa using hroom, h3, ?_, ?_⟩, ⟨rfl, rfl, rfl, by simp, fun k _ hk => setRow_other W g k _ (fun e => hk (by simp [Value.ownBlock, e]))⟩, .inl rfl⟩
      · simp only [List.size_toArray, List.length_append, List.length_take, List.length_drop, Array.length_toList, List.length_cons, List.length_nil]
        omega
      · intro j hj
        have hj2 : j < L.length + 1 := by simpa using hj
        rw [List.getElem?_toArray, List.append_assoc]
        have ht : (cur.toList.take (o + L.length)).length = o + L.length := by have h9 : cur.toList.length = cur.size := Array.length_toList; rw [List.length_take]; omega
        by_cases hjl : j < L.length
        · rw [List.getElem?_append_left (by rw [ht]; omega), List.getElem?_take, if_pos (by omega), Array.getElem?_toList, h5 j hjl]
          simp [List.getD_eq_getElem?_getD, List.getElem?_append_left hjl]
        · obtain rfl : j = L.length := by omega
          rw [List.getElem?_append_right (by rw [ht]; omega), ht]
          simp [List.getD_eq_getElem?_getD]
    · have hr := run_append_grow (P := P) W t ty e i z ht hi hz ⟨g, o, none⟩ L.length cap (L.map (Value.int .i64)) (by simp [hsize]) (fun j u hj => by
          have hjl : j < L.length := by
            rcases Nat.lt_or_ge j L.length with h9 | h9
            · exact h9
            · rw [List.getElem?_eq_none (by simpa using h9)] at hj
              cases hj
          have := h5 j hjl
          rw [Addr.add_lit]
          simp only [World.cell?, hg]
          rw [if_neg (by simp), this]
          simpa [List.getD_eq_getElem?_getD, hjl] using hj) a 1 1 [.int .i64 x] (by simp [hsize]) hnews (by omega) (by omega) (by rw [hby]; exact growslice_fits (by omega) (by omega))
      exact ⟨_, _, hr, fresh cap (by omega), ⟨rfl, rfl, rfl, by simp, fun k hk _ => Below.heap_alloc W.drew _ k hk⟩, .inr rfl⟩
theorem wpList_append_one {ops : Array Oper} {rest : List Oper} {o : Oper} {a : Act} {K : Exit → Act → World → Prop} (hgd : o.guard = none) (s x' : Operand) (t : TypeId)
    (ho : o.op = .call { callee := .builtin .append, args := #[s, x'], argTypes := #[t, t] })
    (e : TypeId) (i : TypeInfo) (z : Value) (ht : P.underlying t = some (.slice e)) (hi : P.info? e = some i) (hz : i.zero = some z) (hsize : i.size = 1) (hby : i.bytes = 8) (hzs : z.cells.size = 1)
    {W : World} {base : Nat} (v : Value) {L : List Int} (hs : a.eval s = v) (h : Q e W base v L) (ad : Addr) (x : Int) (hx' : a.eval x' = .slice (some ad) 1 1) (hx : W.cell? ad = some (.int .i64 x)) (hl : L.length ≤ 1000000) (hbase : base ≤ W.heap.size)
    (hc : ∀ v' W', Q e W' base v' (L ++ [x]) → W.grownBy W' v.ownBlock → (v'.ownBlock = v.ownBlock ∨ v'.ownBlock = some W.heap.size) → wpList P ops K rest (a.put o.dst v') W') : wpList P ops K (o :: rest) a W := by
  refine wpList_plain hgd fun K2 hK => ?_
  obtain ⟨v', W', hr, h2, h3, h4⟩ := append_one (P := P) t o.type e i z ht hi hz hsize hby hzs h ad x hx hl hbase
  unfold Oper.wp execOp
  simp only [ho, resolve, invoke, builtin, Sem.run_bind, Sem.run_pure, Result.andThen_ok, List.map_toArray, List.map_cons, List.map_nil, hs, hx', hr]
  exact hK _ _ (hc v' W' h2 h3 h4)
end
theorem Q.snoc_slice {e : TypeId} {W : World} {base : Nat} {v : Value} {x : Int} {L : List Int} (h : Q e W base v (L ++ [x])) : ∃ g o cap, v = .slice (some ⟨g, o, none⟩) (L.length + 1) cap := by
  rcases h with ⟨_, h⟩ | ⟨g, o, cap, cur, rfl, _⟩
  · simp at h
  · exact ⟨g, o, cap, by simp⟩
theorem Q.slice {e : TypeId} {W : World} {base : Nat} {v : Value} {L : List Int} (h : Q e W base v L) : ∃ A cap, v = .slice A L.length cap := by
  rcases h with ⟨rfl, rfl⟩ | ⟨g, o, cap, cur, rfl, _⟩
  · exact ⟨none, 0, rfl⟩
  · exact ⟨_, _, rfl⟩
structure Keeps (W W' : World) (B : Nat) (v : Value) : Prop where
  os : W'.os = W.os
  tape : W'.tape = W.tape
  output : W'.output = W.output
  size : W.heap.size ≤ W'.heap.size
  block : ∀ b, b < W.heap.size → b ≠ B → v.ownBlock ≠ some b → W'.heap[b]? = W.heap[b]?
theorem Keeps.refl (W : World) (B : Nat) (v : Value) : Keeps W W B v := ⟨rfl, rfl, rfl, Nat.le_refl _, fun _ _ _ _ => rfl⟩
theorem Keeps.then {W W1 W2 : World} {B : Nat} {v : Value} (h : Keeps W W1 B v) (k : Below W1.heap.size W1 W2) : Keeps W W2 B v :=
  ⟨k.os.trans h.os, k.tape.trans h.tape, k.output.trans h.output, Nat.le_trans h.size k.size, fun b hb hB hv => (k.block b (Nat.lt_of_lt_of_le hb h.size)).trans (h.block b hb hB hv)⟩
theorem Keeps.set {W W1 : World} {B : Nat} {v : Value} (h : Keeps W W1 B v) (j : Nat) (u : Value) : Keeps W (W1.setCell ⟨B, j, none⟩ u) B v :=
  ⟨h.os, h.tape, h.output, by simpa using h.size, fun b hb hB hv => (Below.heap_setCell _ _ _ b (fun e => hB e)).trans (h.block b hb hB hv)⟩
theorem Keeps.trans {W W1 W2 : World} {B : Nat} {v v' : Value} (h : Keeps W W1 B v) (k : Keeps W1 W2 B v') (hv : v'.ownBlock = v.ownBlock) : Keeps W W2 B v :=
  ⟨k.os.trans h.os, k.tape.trans h.tape, k.output.trans h.output, Nat.le_trans h.size k.size, fun b hb hB hvb => (k.block b (Nat.lt_of_lt_of_le hb h.size) hB (by rw [hv]; exact hvb)).trans (h.block b hb hB hvb)⟩
theorem Keeps.below {W W' : World} {B n₀ : Nat} {v : Value} (h : Keeps W W' B v) (hB : n₀ ≤ B) (hv : ∀ g, v.ownBlock = some g → n₀ ≤ g) (hn : n₀ ≤ W.heap.size) : Below n₀ W W' :=
  ⟨h.os, h.tape, h.output, h.size, fun k hk => h.block k (Nat.lt_of_lt_of_le hk hn) (by omega) (fun e => by have := hv k e; omega)⟩
theorem setCell_blk {W : World} {B j : Nat} {cs : Array Value} {T : TypeId} (h : W.heap[B]? = some (.cells cs T (0, 0))) (u : Value) : (W.setCell ⟨B, j, none⟩ u).heap[B]? = some (.cells (cs.setIfInBounds j u) T (0, 0)) := by simp [World.setCell, Array.getElem?_modify, h]
theorem setCell_far {W : World} {B j b : Nat} (h : b ≠ B) (u : Value) : (W.setCell ⟨B, j, none⟩ u).heap[b]? = W.heap[b]? := Below.heap_setCell _ _ _ b (fun e => h e)
end Go.Proofs.Ythblnnboeikgcaa.Queue
