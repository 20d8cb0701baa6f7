-- Laid by xprint.py, a program of this session, by the kit's print over contracts of our own. Lean checks it.
import Derived.Test.YtfdkmeokfmgfhaaXx0
namespace Go.Proofs.Ytfdkmeokfmgfhaa.X
open Go.RowKit Go.Proofs.YtfdkmeokfmgfhaaW.PrintWords Go.Proofs.YtfdkmeokfmgfhaaW.PrintLast Go.Proofs.YtfdkmeokfmgfhaaW.PrintMore
attribute [local go_sem] max2_int min2_int max_two min_two max_three min_three max_four min_four   -- for this text's walks alone
set_option linter.unusedVariables false
set_option linter.unusedSimpArgs false

/-! ### hold_of: function 47 -/
-- stub
/-- The cells of a configuration that lies in a block. -/
theorem hold_of.cells {W : World} {g : Nat} {t : TypeId} {fr : Nat × Nat} {c0 c1 c2 c3 c4 c5 c6 c7 c8 c9 c10 : Value} (K : W.heap[g]? = some (.cells #[c0, c1, c2, c3, c4, c5, c6, c7, c8, c9, c10] t (0, 0))) :
    W.cell? ⟨g, 0, none⟩ = some c0 ∧ W.cell? ⟨g, 1, none⟩ = some c1 ∧ W.cell? ⟨g, 2, none⟩ = some c2 ∧ W.cell? ⟨g, 3, none⟩ = some c3 ∧ W.cell? ⟨g, 4, none⟩ = some c4 ∧ W.cell? ⟨g, 5, none⟩ = some c5 ∧ W.cell? ⟨g, 6, none⟩ = some c6 ∧ W.cell? ⟨g, 7, none⟩ = some c7 ∧ W.cell? ⟨g, 8, none⟩ = some c8 ∧ W.cell? ⟨g, 9, none⟩ = some c9 ∧ W.cell? ⟨g, 10, none⟩ = some c10 :=
  ⟨(blk_cell K 0).trans rfl, (blk_cell K 1).trans rfl, (blk_cell K 2).trans rfl, (blk_cell K 3).trans rfl, (blk_cell K 4).trans rfl, (blk_cell K 5).trans rfl, (blk_cell K 6).trans rfl, (blk_cell K 7).trans rfl, (blk_cell K 8).trans rfl, (blk_cell K 9).trans rfl, (blk_cell K 10).trans rfl⟩
theorem hold_of.add_add (a : Addr) (i j : Nat) : (a.add i).add j = a.add (i + j) := by unfold Addr.add; by_cases hi : i = 0 <;> by_cases hj : j = 0 <;> simp [hi, hj, Nat.add_assoc]
theorem hold_of.row_block {w : World} {base e g n : Nat} {xs : List Value} (h : w.ownsRow base e 1 (.slice (some ⟨g, 0, none⟩) n n) n xs) : w.heap[g]? = some (.cells xs.toArray e (0, 0)) ∧ xs.length = n ∧ base ≤ g := by
  obtain ⟨h1, h2⟩ := h
  rcases h2 with ⟨h2, _⟩ | ⟨g', cap, cur, h2, hb, hh, hl, hm, hs, ht⟩
  · cases h2
  · injection h2 with h3 _ h4
    injection h3 with h3
    injection h3 with h3
    subst h3 h4
    rw [List.take_of_length_le (by simp [hs])] at ht
    subst ht
    exact ⟨by rw [hh], by simpa using h1, hb⟩
theorem hold_of.row_some {w : World} {base e g n : Nat} {xs : List Value} (h : w.ownsRow base e 1 (.slice (some ⟨g, 0, none⟩) n n) n xs) : ∃ Z : List Value, w.heap[g]? = some (.cells Z.toArray e (0, 0)) ∧ Z.length = n :=
  ⟨xs, (hold_of.row_block h).1, (hold_of.row_block h).2.1⟩
theorem hold_of.addr0 (g i j : Nat) : ((⟨g, 0, none⟩ : Addr).add i).add j = ⟨g, i + j, none⟩ := by
  rw [hold_of.add_add]
  unfold Addr.add
  by_cases h : i + j = 0
  · rw [if_pos h, h]
  · rw [if_neg h]
    simp
theorem hold_of.row_R {w : World} {base e g : Nat} {xs : List ByteArray} (h : w.heap[g]? = some (.cells (xs.map Value.string).toArray e (0, 0))) (hb : base ≤ g) (hm : xs.length ≤ 1000000) : Kd.string.R e w base (fun _ => True) (.slice (some ⟨g, 0, none⟩) xs.length xs.length) xs :=
  Kd.R_of_own ⟨by simp [encs], .inr ⟨g, xs.length, _, rfl, hb, h, Nat.le_refl _, by unfold maxLen; omega, by simp, by rw [List.take_of_length_le (by simp)]; rfl⟩⟩ (fun _ _ => trivial)
set_option maxHeartbeats 1000000 in
theorem hold_of.calls (n f d p r dr o s m fr : Int) (B : Option Addr) (tl tc : Nat) (A : Addr) (len cap : Nat) (x y z : Int) (w : World) (h0 : 0 ≤ x) (h1 : x ≤ 100) (hy : x * d = y) (hz : (x + 1) * d = z) (hy0 : 0 ≤ y) (hyz : y < z) (hzc : z ≤ cap) (hz1 : z ≤ 1000000) (L : Nat) (hL : z.toNat - y.toNat = L) :
    Calls Try.prog 47 #[.agg #[.int .i64 n, .int .i64 f, .int .i64 d, .int .i64 p, .int .i64 r, .int .i64 dr, .int .i64 o, .int .i64 s, .int .i64 m, .int .i64 fr, .slice B tl tc], .slice (some A) len cap, .int .i64 x] w fun e w' => e = .returned (.slice (some (A.add y.toNat)) L L) ∧ Below w.heap.size w w' := by
  have HL := Aside0.mk hL
  clear hL
  go_enter Try.func47, Try.ntmps47
  go_wp2
  go_quiet (fail)
  go_wp2
  go_ret
  exact ⟨by rw [← HL.out]; rfl, pw_below_drewN (below_alloc (Below.refl _ w) _) nq⟩

end Go.Proofs.Ytfdkmeokfmgfhaa.X
