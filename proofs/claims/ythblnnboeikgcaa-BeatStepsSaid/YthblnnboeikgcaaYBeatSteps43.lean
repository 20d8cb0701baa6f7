import Derived.Test.YthblnnboeikgcaaYBeatSteps42
import Derived.Test.YthblnnboeikgcaaYBeatSteps5
set_option maxHeartbeats 4000000
set_option maxRecDepth 100000
section
namespace Go.Proofs.Ythblnnboeikgcaa.B
open Go.RowKit Go.Proofs.YthblnnboeikgcaaW.PrintWords Go.Proofs.YthblnnboeikgcaaW.PrintLast Go.Proofs.YthblnnboeikgcaaW.PrintMore
attribute [local go_sem] max2_int min2_int max_two min_two max_three min_three max_four min_four   -- for this text's walks alone
set_option linter.unusedVariables false
set_option linter.unusedSimpArgs false
theorem beat_ends_begin.calls {W : World} {B : Nat} {cs : Array Value} {T : TypeId} {base : Nat} {v : Value} {L : List Int} (x : Int) (hB : W.heap[B]? = some (.cells cs T (0, 0))) (h0 : cs[0]? = some v) (hQ : Ythblnnboeikgcaa.Queue.Q 3 W base v L) (hl : L.length ≤ 1000000) (hbase : base ≤ W.heap.size) (hne : v.ownBlock ≠ some B) :
    Calls Try.prog 102 #[.pointer (some ⟨B, 0, none⟩), .int .i64 x] W fun e W' => (∃ u, e = .returned u) ∧ ∃ v', W'.heap[B]? = some (.cells (cs.setIfInBounds 0 v') T (0, 0)) ∧ Ythblnnboeikgcaa.Queue.Q 3 W' base v' (L ++ [x]) ∧ (v'.ownBlock = v.ownBlock ∨ ∃ g, v'.ownBlock = some g ∧ W.heap.size ≤ g) ∧ Ythblnnboeikgcaa.Queue.Keeps W W' B v := by
  obtain ⟨i0, hi, hz0, hz1, hz2⟩ := info_parts info3
  obtain ⟨A, cap, rfl⟩ := hQ.slice
  have hb : W.cell? ⟨B, 0, none⟩ = some (.slice A L.length cap) := (blk_cell hB 0).trans h0
  have HB := Sd.mk hB
  have H0 := Sd.mk h0
  have HQ : Sd (Ythblnnboeikgcaa.Queue.Q 3 (W.alloc (.cells #[.int .i64 x] 3)) base (.slice A L.length cap) L) := ⟨hQ.same (fun g _ hlt => Below.heap_alloc W _ g hlt)⟩
  have hcn : (W.alloc (.cells #[.int .i64 x] 3)).cell? ⟨W.heap.size, 0, none⟩ = some (.int .i64 x) := (blk_cell (blk_new W _) 0).trans rfl
  have HCN := Sd.mk hcn
  clear hQ hB h0 hcn
  go_enter Try.func102, Try.ntmps102
  go_wp2_with (at_builtin; refine Ythblnnboeikgcaa.Queue.wpList_append_one rfl _ _ 22 rfl 3 i0 (.int .i64 0) Try.underlying22 hi hz0 hz1 hz2 rfl (.slice A L.length cap) rfl HQ.out ⟨W.heap.size, 0, none⟩ x rfl HCN.out hl (by rw [World.size_alloc]; exact Nat.le_succ_of_le hbase) ?_; intro v' w1 hQ1 hg1 hat1; obtain ⟨g', o', cap', rfl⟩ := hQ1.snoc_slice; have hlt := (Array.getElem?_eq_some_iff.1 HB.out).1; have hB1 : w1.heap[B]? = some (.cells cs T (0, 0)) := (hg1.block B (by rw [World.size_alloc]; exact Nat.lt_succ_of_lt hlt) (fun e => hne e.symm)).trans ((Below.heap_alloc W _ B hlt).trans HB.out); have hc1 := (blk_cell hB1 0).trans H0.out; have hf1 := blk_frozen hB1 0)
  have hgB : ∀ g, (Value.slice (some (⟨g', o', none⟩ : Addr)) (L.length + 1) cap').ownBlock = some g → g ≠ B := by
    intro g hg e
    subst e
    rcases hat1 with h | h
    · rw [h] at hg
      exact hne hg
    · rw [h, World.size_alloc] at hg
      have := Option.some.inj hg
      omega
  have hsz := hg1.size
  rw [World.size_alloc] at hsz
  go_end0
  refine ⟨⟨_, rfl⟩, _, Ythblnnboeikgcaa.Queue.setCell_blk hB1 _, hQ1.same (fun g hg _ => Ythblnnboeikgcaa.Queue.setCell_far (hgB g hg) _), hat1.imp id (fun e => ⟨_, e, by rw [World.size_alloc]; exact Nat.le_succ _⟩), hg1.os, hg1.tape, hg1.output, ?_, ?_⟩
  · simp
    omega
  · intro b hb hbB hbv
    exact (Ythblnnboeikgcaa.Queue.setCell_far hbB _).trans ((hg1.block b (by rw [World.size_alloc]; exact Nat.lt_succ_of_lt hb) (fun e => hbv e.symm)).trans (Below.heap_alloc W _ b hb))
end Go.Proofs.Ythblnnboeikgcaa.B
end
section
namespace Go.Proofs.Ythblnnboeikgcaa.B
open Go.RowKit Go.Proofs.YthblnnboeikgcaaW.PrintWords Go.Proofs.YthblnnboeikgcaaW.PrintLast Go.Proofs.YthblnnboeikgcaaW.PrintMore
attribute [local go_sem] max2_int min2_int max_two min_two max_three min_three max_four min_four   -- for this text's walks alone
set_option linter.unusedVariables false
set_option linter.unusedSimpArgs false
theorem beat_ends_next.calls {W : World} {B : Nat} {cs : Array Value} {T : TypeId} {base : Nat} {v : Value} {x : Int} {L : List Int} (hB : W.heap[B]? = some (.cells cs T (0, 0))) (h0 : cs[0]? = some v) (hQ : Ythblnnboeikgcaa.Queue.Q 3 W base v (x :: L)) :
    Calls Try.prog 133 #[.pointer (some ⟨B, 0, none⟩)] W fun e W' => e = .returned (.int .i64 x) ∧ ∃ v', W' = W.setCell ⟨B, 0, none⟩ v' ∧ Ythblnnboeikgcaa.Queue.Q 3 W base v' L ∧ v'.ownBlock = v.ownBlock := by
  obtain ⟨g, o, cap, rfl, hc, hm, hx, hQ'⟩ := hQ.open_cons
  have hb : W.cell? ⟨B, 0, none⟩ = some (.slice (some ⟨g, o, none⟩) (L.length + 1) cap) := (blk_cell hB 0).trans h0
  have hf := blk_frozen hB 0
  have HQ := Sd.mk hQ'
  clear hQ' hQ hB h0
  have h1 : ((1 : Int) ≤ (L.length : Int) + 1) := by omega
  have h2 : ((L.length : Int) + 1 ≤ (cap : Int)) := by omega
  have h3 : (0 : Int) < (L.length : Int) + 1 := by omega
  by_cases e : cap = 1
  · subst e
    obtain rfl : L = [] := List.eq_nil_of_length_eq_zero (by omega)
    rw [if_pos rfl] at HQ
    go_enter Try.func133, Try.ntmps133
    go_wp2
    go_ret
    exact ⟨rfl, _, rfl, HQ.out, rfl⟩
  · rw [if_neg e] at HQ
    go_enter Try.func133, Try.ntmps133
    go_wp2
    go_ret
    exact ⟨rfl, _, rfl, HQ.out, rfl⟩
end Go.Proofs.Ythblnnboeikgcaa.B
end
