import Derived.Test.YtmdnmofcgmmfbaaYTraceReads15
import Derived.Maps.OwnIn
set_option linter.unusedSimpArgs false
set_option linter.unusedVariables false
namespace Go.Proofs.Ytmdnmofcgmmfbaa.Round
open Go Go.RowKit Go.Proofs.YtmdnmofcgmmfbaaW.PrintLast Go.Proofs.YtmdnmofcgmmfbaaW.PrintWords
theorem region_in {P : Program} {l n id : Nat} {ls : List Oper} {Q : Exit → Act → World → Prop} {a : Act} {w : World} (hd : noDefer ls.toArray = true) (hQ : ¬ LetsOut Q) (h : wpList P ls.toArray Q ls a w) :
    (Code.region id ls.toArray false).wpIn (Fence.wide.inRound l) n P Q a w :=
  wpIn_region_lit (list_in hd hQ _ _ _ (fun o ho c => by
    obtain ⟨i, hi⟩ := List.getElem?_of_mem ho
    exact noDefer_at (ops := ls.toArray) hd (i := i) (by simpa using hi) c) h)
theorem R_own {α : Type} {d : Kd α} {e base B : Nat} {ok : Nat → Prop} {v : Value} {xs : List α} {X Y : World} {row : Option Nat} (h : d.R e X base ok v xs) (hg : X.grownBy Y row) (hr : ∀ r, row = some r → B ≤ r ∧ ∃ o : Obj, X.heap[r]? = some o ∧ o.isCells = false) : d.R e Y base ok v xs :=
  Kd.R_mono (Kd.R_step (Kd.R_bound h) (fun k hk hlt => hg.block k hlt (fun e' => by
    obtain ⟨_, o, ho, hc⟩ := hr k e'.symm
    obtain ⟨_, _, _, q, _, cells, hcell⟩ := hk
    rw [hcell] at ho
    cases ho
    cases hc))) (fun k hk => hk.1)
def RBox {α : Type} (d : Kd α) (t e b base : Nat) (xs : List α) (W : World) : Prop := ∃ vv, Boxed W b t vv ∧ d.R e W base (fun _ => True) vv xs
theorem RBox.own {α β : Type} {d : Kd α} {t e b base B : Nat} {f : β → List α} : OwnFrom B (fun s W => RBox d t e b base (f s) W) := by
  rintro s X Y row ⟨vv, hb, hR⟩ hg hr
  exact ⟨vv, boxed_own (β := Unit) b t (fun _ => vv) () X Y row hb hg (fun r e => (hr r e).2), R_own hR hg hr⟩
theorem putR {α : Type} {d : Kd α} {t e base B : Nat} {v v1 : Value} {xs ys : List α} {W w1 : World} (hv : Boxed W B t v) (hB : B < base) (hbase : base ≤ W.heap.size) (hrow : d.R e W base (fun _ => True) v xs) (hrow1 : d.R e w1 base (fun _ => True) v1 ys) (hg : W.grownBy w1 v.ownBlock) :
    Boxed w1 B t v ∧ RBox d t e B base ys (w1.setCell ⟨B, 0, none⟩ v1) ∧ KeepsOthers W (w1.setCell ⟨B, 0, none⟩ v1) ∧ (∀ b, b < base → b ≠ B → (w1.setCell ⟨B, 0, none⟩ v1).heap[b]? = W.heap[b]?) ∧ (∀ n₀, n₀ ≤ B → Below n₀ W (w1.setCell ⟨B, 0, none⟩ v1)) ∧ W.heap.size ≤ (w1.setCell ⟨B, 0, none⟩ v1).heap.size := by
  obtain ⟨i1, h1⟩ := Kd.R_own hrow
  obtain ⟨i2, h2⟩ := Kd.R_own hrow1
  obtain ⟨hv1, hv2, _, hk2, hs2, hb2⟩ := put_ hv hB hbase h1 h2 hg
  refine ⟨hv1, ⟨v1, hv2, Kd.R_mono (Kd.R_far (p := ⟨B, 0, none⟩) (Kd.R_bound hrow1) (fun k hk => by have := hk.2.1; show k ≠ B; omega) v1) (fun k hk => hk.1)⟩, hk2, hs2, hb2, hk2.size⟩
theorem R_append_in {F : Fence} {nF : Nat} {P : Program} {ops : Array Oper} {rest : List Oper} {o : Oper} {a : Act} {Q : Exit → Act → World → Prop} {α : Type} (d : Kd α) {W : World} (base : Nat) (hgd : o.guard = none) (s x : Operand) (t e : TypeId) (z : Value) (bytes : Nat)
    (ho : o.op = .call { callee := .builtin .append, args := #[s, x], argTypes := #[t, t] })
    (ht : P.underlying t = some (.slice e)) (hinfo : (P.info? e).map (fun i => (i.zero, i.size, i.bytes)) = some (some z, d.sz, bytes)) (hz : z.cells.size = d.sz) (hs0 : 0 < d.sz) (hb0 : 0 < bytes)
    (v : Value) (xs : List α) (p : α) (cs : List Value) (ok okp : Nat → Prop) (hs : a.eval s = v) (hx : a.eval x = .slice (some ⟨W.heap.size, 0, none⟩) 1 1) (hp : d.M W base okp p cs) (hokp : ∀ k, okp k → ok k ∧ some k ≠ v.ownBlock) (hfresh : ∀ k, W.heap.size ≤ k → ok k)
    (HO : d.R e W base ok v xs) (hbase : base ≤ W.heap.size) (hl : (xs.length + 1) * bytes ≤ 140737488355328)
    (h : ∀ v1 w1, d.R e w1 base ok v1 (xs ++ [p]) → W.grownBy w1 v.ownBlock → (v1.ownBlock = v.ownBlock ∨ ∃ b, v1.ownBlock = some b ∧ W.heap.size ≤ b) → wpListIn F nF P ops Q rest (a.put o.dst v1) w1) :
    wpListIn F nF P ops Q (o :: rest) a (W.alloc (.cells cs.toArray e)) := by
  obtain ⟨h0, inner, hown, hr⟩ := HO
  obtain ⟨i0, hi, hzz⟩ := Option.map_eq_some_iff.1 hinfo
  simp only [Prod.mk.injEq] at hzz
  obtain ⟨hz0, hz1, hz2⟩ := hzz
  have hlen : xs.length + 1 ≤ 140737488355328 := Nat.le_trans (Nat.le_mul_of_pos_right _ hb0) hl
  refine wpListIn_append_own_at (w := W.alloc (.cells cs.toArray e)) hgd s x t ho base e i0 z d.sz bytes ht hi hz0 hz1 hz2 hz hs0 v xs.length inner hs (hown.alloc _) ⟨W.heap.size, 0, none⟩ 1 1 cs hx (by rw [d.K_len (d.K_of_M hp)]; simp)
    (by simpa using World.news_of_block (cs := cs.toArray) (t := e) (fr := (0, 0)) (heap_alloc_new W (.cells cs.toArray e))) (d.K_one (d.K_of_M hp)) (by simp only [maxLen]; omega) hl (by simp; omega) ?_
  intro v1 w1 hown1 hg _ hat
  have hg1 : W.grownBy w1 v.ownBlock := World.grownBy.trans (World.grownBy_alloc W _ _) hg
  have hat1 : v1.ownBlock = v.ownBlock ∨ ∃ b, v1.ownBlock = some b ∧ W.heap.size ≤ b := hat.imp id (fun e => ⟨_, e, by simp⟩)
  exact h v1 w1 (Kd.R_appended h0 hr hp hokp hfresh hown1 hg1 hat1) hg1 hat1
end Go.Proofs.Ytmdnmofcgmmfbaa.Round
