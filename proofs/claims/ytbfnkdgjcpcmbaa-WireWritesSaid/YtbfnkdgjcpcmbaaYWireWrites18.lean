import Derived.Maps.AppendAt
import Derived.Test.YtbfnkdgjcpcmbaaYWireWrites11
namespace Go.Proofs.Ytbfnkdgjcpcmbaa.X
open Go.RowKit Go.Proofs.YtbfnkdgjcpcmbaaW.PrintWords Go.Proofs.YtbfnkdgjcpcmbaaW.PrintLast Go.Proofs.YtbfnkdgjcpcmbaaW.PrintMore
attribute [local go_sem] max2_int min2_int max_two min_two max_three min_three max_four min_four   -- for this text's walks alone
set_option linter.unusedVariables false
set_option linter.unusedSimpArgs false
open Go
set_option maxHeartbeats 4000000
set_option maxRecDepth 100000
def IsW (w0 W : World) (g : Nat) (L : List Int) : Prop := ∃ v, W.heap[g]? = some (.cells #[v] 54 (0, 0)) ∧ w0.heap.size ≤ g ∧ (Kd.int .u8).R 5 W w0.heap.size (fun _ => True) v L ∧ Below w0.heap.size w0 W
def KeepT (W W' : World) (g : Nat) : Prop := ∀ b cs t fr, W.heap[b]? = some (.cells cs t fr) → t ≠ 5 → b ≠ g → W'.heap[b]? = some (.cells cs t fr)
theorem KeepT.refl (W : World) (g : Nat) : KeepT W W g := fun _ _ _ _ h _ _ => h
theorem KeepT.trans {A B C : World} {g : Nat} (h : KeepT A B g) (k : KeepT B C g) : KeepT A C g := fun b cs t fr h1 h2 h3 => k b cs t fr (h b cs t fr h1 h2 h3) h2 h3
theorem KeepT.below {A B : World} (h : Below A.heap.size A B) (g : Nat) : KeepT A B g := fun b cs t fr h1 _ _ => (h.block b (Array.getElem?_eq_some_iff.1 h1).1).trans h1
theorem IsW.below {w0 W W' : World} {g : Nat} {L : List Int} (h : IsW w0 W g L) (hb : Below W.heap.size W W') : IsW w0 W' g L := by
  obtain ⟨v, h1, h2, h3, h4⟩ := h
  exact ⟨v, blk_below h1 hb, h2, Kd.R_below h3 hb, h4.trans (hb.mono h4.size)⟩
theorem IsW.drew {w0 W : World} {g : Nat} {L : List Int} (h : IsW w0 W g L) : IsW w0 W.drew g L := h.below (below_drew1 (Below.refl _ _))
theorem IsW.alloc {w0 W : World} {g : Nat} {L : List Int} (h : IsW w0 W g L) (o : Obj) : IsW w0 (W.alloc o) g L := h.below (below_alloc (Below.refl _ _) o)
theorem IsW.put {w0 W w1 : World} {g : Nat} {L M : List Int} {v v1 : Value} (h1 : W.heap[g]? = some (.cells #[v] 54 (0, 0))) (h2 : w0.heap.size ≤ g) (h3 : (Kd.int .u8).R 5 W w0.heap.size (fun _ => True) v L) (h4 : Below w0.heap.size w0 W)
    (ho : (Kd.int .u8).R 5 w1 w0.heap.size (fun _ => True) v1 M) (hb : Below w0.heap.size W w1) (hg : W.grownBy w1 v.ownBlock) :
    w1.cell? ⟨g, 0, none⟩ = some v ∧ w1.frozen? ⟨g, 0, none⟩ = false ∧ IsW w0 (w1.setCell ⟨g, 0, none⟩ v1) g M ∧ KeepT W (w1.setCell ⟨g, 0, none⟩ v1) g := by
  have hne : some g ≠ v.ownBlock := Kd.R_ne h3 h1 (by decide)
  have h5 : w1.heap[g]? = some (.cells #[v] 54 (0, 0)) := (hg.block g (Array.getElem?_eq_some_iff.1 h1).1 hne).trans h1
  refine ⟨(blk_cell h5 0).trans rfl, blk_frozen h5 0, ⟨v1, ?_, h2, Kd.R_set ho h5 (by intro q hq; simp [Kd.int, Kd.scalar] at hq; omega) _ _, (h4.trans hb).setCell (p := ⟨g, 0, none⟩) h2 v1⟩, ?_⟩
  · have : (w1.setCell ⟨g, 0, none⟩ v1).heap[g]? = some (.cells (#[v].setIfInBounds 0 v1) 54 (0, 0)) := by simp [World.setCell, Array.getElem?_modify, h5]
    exact this
  · intro b cs t fr hb1 ht hbg
    refine (Below.heap_setCell _ _ _ b (fun e => hbg e)).trans ((hg.block b (Array.getElem?_eq_some_iff.1 hb1).1 (fun e => ?_)).trans hb1)
    obtain ⟨cells, hc⟩ := Kd.R_typed h3 b e.symm
    rw [hb1] at hc
    cases hc
    exact ht rfl
theorem wire_writer_byte.calls (w0 : World) {W : World} {g : Nat} {L : List Int} (n : Int) (hI : IsW w0 W g L) (hl : L.length ≤ 1000000) :
    Calls Try.prog 46 #[.pointer (some ⟨g, 0, none⟩), .int .i64 n] W fun e W' => (∃ u, e = .returned u) ∧ IsW w0 W' g (L ++ [n % 256]) ∧ KeepT W W' g := by
  obtain ⟨v, h1, h2, h3, h4⟩ := hI
  obtain ⟨A, c, rfl⟩ := Kd.R_slice h3
  have hc : W.cell? ⟨g, 0, none⟩ = some (.slice A L.length c) := (blk_cell h1 0).trans rfl
  have H1 := Sd.mk h1
  have H3 := Sd.mk h3
  have H4 := Sd.mk h4
  clear h1 h3 h4
  go_enter Try.func46, Try.ntmps46
  go_wp2_with (at_builtin; refine Kd.R_append (Kd.int .u8) (w0 := W) w0.heap.size rfl (.tmp 8) (.tmp 11) 44 5 (.int .u8 0) 1 rfl Try.underlying44 info5 rfl (by decide) (by omega) _ L (n % 256) [.int .u8 (n % 256)] (fun _ => True) (fun _ => False) rfl rfl rfl (fun _ h => h.elim) (fun _ _ => trivial) H3.out (Below.refl _ _) H4.out.size (by omega) ?_; intro v1 w1 ho hb hg hat; obtain ⟨A1, c1, rfl⟩ := Kd.R_slice ho; obtain ⟨hc1, hf1, hI1, hK1⟩ := IsW.put H1.out h2 H3.out H4.out ho hb hg)
  simp only [List.length_append, List.length_cons, List.length_nil] at hI1 hK1
  go_end0
  exact ⟨⟨_, rfl⟩, hI1, hK1⟩
end Go.Proofs.Ytbfnkdgjcpcmbaa.X
