import Derived.RangeFuncNested
import Derived.RangeFuncBound
import Derived.RangeFuncCalls
import Derived.RangeFuncLeaves
import Derived.RangeFuncBox
import Derived.OrdersIn
import Derived.TacticsIn
import Derived.Test.YtmdnmofcgmmfbaaYTraceReads1
import Derived.Test.YtmdnmofcgmmfbaaYTraceReads0
set_option linter.unusedSimpArgs false
set_option linter.unusedVariables false
namespace Go.Proofs.Ytmdnmofcgmmfbaa.Round
open Go Go.RowKit Go.Proofs.YtmdnmofcgmmfbaaW.PrintLast Go.Proofs.YtmdnmofcgmmfbaaW.PrintWords
section
variable {P : Program} {l n : Nat} {ops : Array Oper} {Q : Exit → Act → World → Prop} {md : Region.Mode}
theorem rows_in {row : String} {args : Array Value} {w : World} {R : Value → World → Prop} (h : Rows P row args w R) : RowsIn (Fence.wide.inRound l) n P row args w R :=
  fun c cs _ => let ⟨v, w', r, s⟩ := h c cs; ⟨v, w', r, stepsIn_wide.2 s⟩
theorem calls_in {f : FuncId} {args : Array Value} {w : World} {R : Ending → World → Prop} (h : Calls P f args w R) : CallsIn (Fence.wide.inRound l) n P f args w R := CallsIn.inRound l (callsIn_wide.2 h)
theorem deep {q : Prop} (h : (Fence.wide.inRound l).depth.isSome = true) : q := by cases h
theorem oper_in {o : Oper} {a : Act} {w : World} {K : Act → World → Prop} (hd : ∀ c, o.op ≠ .defer c) (h : o.wp P a w K Q) : o.wpIn (Fence.wide.inRound l) n P a w K Q := by
  refine ⟨fun _ _ => trivial, ?_⟩
  rw [Fence.inRound_round, Oper.semAt_some l _ _ hd]
  unfold Oper.wp at h
  generalize (execOp a.eval o).run P w = r at *
  cases r with
  | ok x w' =>
    cases x <;> simp only [Oper.upon, Oper.uponIn] at h ⊢ <;>
      first
        | exact h
        | exact ⟨fun h => deep h, calls_in h⟩
        | exact ⟨fun h => deep h, rows_in h⟩
        | exact h.elim
  | halt x w' => cases x <;> simp only [Oper.upon, Oper.uponIn] at h ⊢ <;> first | exact h | exact h.elim
def noDefer (ops : Array Oper) : Bool := ops.all fun o => match o.op with | .defer _ => false | _ => true
theorem noDefer_at (h : noDefer ops = true) {i : Nat} {o : Oper} (ho : ops[i]? = some o) : ∀ c, o.op ≠ .defer c := by
  intro c e
  unfold noDefer at h
  rw [Array.all_eq_true] at h
  obtain ⟨hi, rfl⟩ := Array.getElem?_eq_some_iff.1 ho
  have := h i hi
  rw [e] at this
  cases this
theorem op_in (hd : noDefer ops = true) (hQ : ¬ LetsOut Q) {i : Nat} {a : Act} {w : World} {K K' : Act → World → Prop} (hK : ∀ a w, K a w → K' a w) (h : wpOp P ops Q i K a w) : wpOpIn (Fence.wide.inRound l) n P ops Q i K' a w := by
  unfold wpOp at h
  unfold wpOpIn
  cases ho : ops[i]? with
  | none => simp only [ho] at h ⊢; exact hK _ _ h
  | some o =>
    simp only [ho] at h ⊢
    split at h
    · rename_i hw
      rw [if_pos hw]
      rcases h with h | h
      · exact Oper.wpIn_mono hK (oper_in (noDefer_at hd ho) h)
      · exact absurd h.2 hQ
    · rename_i hw
      rw [if_neg hw]
      exact ⟨fun _ _ => trivial, hK _ _ h⟩
theorem any_in (hd : noDefer ops = true) (hQ : ¬ LetsOut Q) : ∀ (fuel : Nat) (listed : Array Bool) (a : Act) (w : World), wpAny P md ops Q fuel listed a w → wpAnyIn (Fence.wide.inRound l) n P md ops Q fuel listed a w
  | 0, _, _, _, h => h
  | fuel + 1, _, _, _, h => ⟨h.1, fun i hi => op_in hd hQ (fun a w => any_in hd hQ fuel _ a w) (h.2 i hi)⟩
theorem list_in (hd : noDefer ops = true) (hQ : ¬ LetsOut Q) : ∀ (L : List Oper) (a : Act) (w : World), (∀ o ∈ L, ∀ c, o.op ≠ .defer c) → wpList P ops Q L a w → wpListIn (Fence.wide.inRound l) n P ops Q L a w
  | [], _, _, _, h => h
  | o :: L, a, w, hL, h => by
    unfold wpList at h
    unfold wpListIn
    split at h
    · rename_i hw
      rw [if_pos hw]
      rcases h with h | h
      · exact Oper.wpIn_mono (fun a w => list_in hd hQ L a w (fun o ho => hL o (List.mem_cons_of_mem _ ho))) (oper_in (hL o (List.mem_cons_self ..)) h)
      · exact absurd h.2 hQ
    · rename_i hw
      rw [if_neg hw]
      exact ⟨fun _ _ => trivial, list_in hd hQ L _ w (fun o ho => hL o (List.mem_cons_of_mem _ ho)) h⟩
theorem start_in {S : World → Prop} {ds : List Nat} {id m : Nat} {a : Act} {w : World} (lb : Array Bool) (hd : noDefer ops = true) (hQ : ¬ LetsOut Q) (hm : P.follows .mixedOrders = true) (hn : ops.size = m) (hl : Array.replicate m false = lb) (hS : S w.drew)
    (h : S w.drew → wpAnyLast P .any ops Q S ds m lb a w.drew) : (Code.region id ops true).wpIn (Fence.wide.inRound l) n P Q a w := by
  subst hn
  subst hl
  exact wpIn_region_any hm (any_in hd hQ _ _ _ _ (wpAny_of_last _ _ _ _ (h hS)))
end
theorem ownFrom_size {β : Type} (B n : Nat) : OwnFrom B (fun (_ : β) W => n ≤ W.heap.size) := fun _ _ _ _ hs hg _ => Nat.le_trans hs hg.size
theorem boxed_drew {W : World} {B : Nat} {t : TypeId} {v : Value} (h : Boxed W B t v) : Boxed W.drew B t v := h
theorem own_far {W : World} {base : Nat} {e : TypeId} {size : Nat} {v : Value} {k : Nat} {xs : List Value} (h : W.ownsRow base e size v k xs) : ∀ j, v.ownBlock = some j → base ≤ j := by
  intro j hj
  rcases h.2 with ⟨rfl, _⟩ | ⟨g, cap, cur, rfl, hb, _, _⟩
  · simp [Value.ownBlock] at hj
  · obtain rfl : g = j := by simpa [Value.ownBlock] using hj
    exact hb
theorem own_cells {W : World} {base : Nat} {e : TypeId} {size : Nat} {v : Value} {k : Nat} {xs : List Value} (h : W.ownsRow base e size v k xs) : ∀ (j : Nat) (o : Obj), v.ownBlock = some j → W.heap[j]? = some o → o.isCells = true := by
  intro j o hj ho
  rcases h.2 with ⟨rfl, _⟩ | ⟨g, cap, cur, rfl, _, hgb, _⟩
  · simp [Value.ownBlock] at hj
  · obtain rfl : g = j := by simpa [Value.ownBlock] using hj
    rw [hgb] at ho
    cases ho
    rfl
theorem own_slice {W : World} {base : Nat} {e : TypeId} {size : Nat} {v : Value} {k : Nat} {xs : List Value} (h : W.ownsRow base e size v k xs) : ∃ A c, v = .slice A k c := by
  rcases h.2 with ⟨rfl, h0⟩ | ⟨g, cap, cur, rfl, _⟩
  · exact ⟨none, 0, by rw [h0]⟩
  · exact ⟨_, _, rfl⟩
theorem own_same {W W' : World} {base : Nat} {e : TypeId} {size : Nat} {v : Value} {k : Nat} {xs : List Value} (h : W.ownsRow base e size v k xs) (hs : ∀ g, v.ownBlock = some g → W'.heap[g]? = W.heap[g]?) : W'.ownsRow base e size v k xs := by
  refine ⟨h.1, ?_⟩
  rcases h.2 with h0 | ⟨g, cap, cur, rfl, hb, hg, h1⟩
  · exact .inl h0
  · exact .inr ⟨g, cap, cur, rfl, hb, (hs g rfl).trans hg, h1⟩
theorem own_typed {W : World} {base : Nat} {e : TypeId} {size : Nat} {v : Value} {k : Nat} {xs : List Value} (h : W.ownsRow base e size v k xs) : ∀ g, v.ownBlock = some g → ∃ cur, W.heap[g]? = some (.cells cur e (0, 0)) := by
  intro g hg
  rcases h.2 with ⟨rfl, _⟩ | ⟨g', cap, cur, rfl, hb, hh, _⟩
  · simp [Value.ownBlock] at hg
  · obtain rfl : g' = g := by simpa [Value.ownBlock] using hg
    exact ⟨_, hh⟩
theorem put_ {W w1 : World} {base B : Nat} {t e : TypeId} {size : Nat} {v v' : Value} {k m : Nat} {xs ys : List Value} (hv : Boxed W B t v) (hB : B < base) (hbase : base ≤ W.heap.size) (hrow : W.ownsRow base e size v k xs)
    (hown' : w1.ownsRow base e size v' m ys) (hg : W.grownBy w1 v.ownBlock) :
    Boxed w1 B t v ∧ Boxed (w1.setCell ⟨B, 0, none⟩ v') B t v' ∧ (w1.setCell ⟨B, 0, none⟩ v').ownsRow base e size v' m ys ∧ KeepsOthers W (w1.setCell ⟨B, 0, none⟩ v') ∧
      (∀ b, b < base → b ≠ B → (w1.setCell ⟨B, 0, none⟩ v').heap[b]? = W.heap[b]?) ∧ ∀ n₀, n₀ ≤ B → Below n₀ W (w1.setCell ⟨B, 0, none⟩ v') := by
  have ne : ∀ {b : Nat} {u : Value} {W : World} {k : Nat} {xs : List Value}, b < base → W.ownsRow base e size u k xs → some b ≠ u.ownBlock := fun hb ho e' => Nat.not_le_of_lt hb (own_far ho _ e'.symm)
  have hv1 : Boxed w1 B t v := hv.kept hg (ne hB hrow)
  refine ⟨hv1, hv1.set v', hown'.kept (grownBy_setCell' w1 B v') (.inr (ne hB hown').symm), ?_, ?_, ?_⟩
  · exact (KeepsOthers.of_grownBy hg (fun j o ej hj => own_cells hrow j o ej hj)).trans (KeepsOthers.setCell _ _ _)
  · intro b hb hne
    refine ((grownBy_setCell' w1 B v').block b ?_ (fun e' => hne (by cases e'; rfl))).trans (hg.block b (by omega) (ne hb hrow))
    exact Nat.lt_of_lt_of_le (Nat.lt_of_lt_of_le hb hbase) hg.size
  · intro n₀ hn
    exact ((Below.refl n₀ W).grown hg (by omega) (fun j ej => by have := own_far hrow j ej; omega)).setCell (p := ⟨B, 0, none⟩) hn v'
def AllB (T : TypeId) (W : World) (g : Nat) (L : List Int) : Prop := ∃ cs, W.heap[g]? = some (.cells cs T (0, 0)) ∧ ∀ j, j < L.length → cs[j]? = some (.int .u8 (L.getD j 0))
theorem AllB.cell {T : TypeId} {W : World} {g i : Nat} {L : List Int} (h : AllB T W g L) (hi : i < L.length) : W.cell? ⟨g, i, none⟩ = some (.int .u8 (L.getD i 0)) := by
  obtain ⟨cs, h, ha⟩ := h
  simp only [World.cell?, h]
  exact ha i hi
theorem AllB.frozen {T : TypeId} {W : World} {g i : Nat} {L : List Int} (h : AllB T W g L) : W.frozen? ⟨g, i, none⟩ = false := by
  obtain ⟨cs, h, ha⟩ := h
  simp [World.frozen?, h]
theorem AllB.set {T : TypeId} {W : World} {g i : Nat} {L : List Int} (h : AllB T W g L) (hi : i < L.length) (x : Int) : AllB T (W.setCell ⟨g, i, none⟩ (.int .u8 x)) g (L.set i x) := by
  obtain ⟨cs, h, ha⟩ := h
  refine ⟨cs.setIfInBounds i (.int .u8 x), by simp [World.setCell, Array.getElem?_modify, h], fun j hj => ?_⟩
  rw [List.length_set] at hj
  have hin : i < cs.size := by
    have := ha i hi
    rcases Nat.lt_or_ge i cs.size with h1 | h1
    · exact h1
    · rw [Array.getElem?_eq_none h1] at this
      cases this
  by_cases e : i = j
  · subst e
    simp [Array.getElem?_setIfInBounds, hin, List.getD_eq_getElem?_getD, hi]
  · have := ha j hj
    simp [Array.getElem?_setIfInBounds, e, this, List.getD_eq_getElem?_getD, List.getElem?_set_ne e]
theorem AllB.reads {T : TypeId} {W : World} {g : Nat} {L : List Int} (h : AllB T W g L) (N : Nat) (hN : N ≤ L.length) (hl : L.length ≤ 1000000) : ReadsInt W .u8 (some ⟨g, 0, none⟩) N (L.take N) := by
  refine ⟨by rw [List.length_take]; omega, by omega, fun hp => ⟨_, rfl, fun j hj => ?_⟩⟩
  have := h.cell (i := j) (by omega)
  rw [show ((⟨g, 0, none⟩ : Addr).add j) = ⟨g, j, none⟩ by simp [Addr.add]; exact fun h => h.symm, this]
  simp [List.getD_eq_getElem?_getD, List.getElem?_take, hj]
theorem blk_own {β : Type} (b : Nat) (o : Obj) (ho : o.isCells = true) : Own (fun (_ : β) W => W.heap[b]? = some o) := by
  rintro s X Y row hs hg hrow
  refine (hg.block b (Array.getElem?_eq_some_iff.1 hs).1 (fun e' => ?_)).trans hs
  obtain ⟨o', ho', hc⟩ := hrow b e'.symm
  rw [hs] at ho'
  cases ho'
  rw [ho] at hc
  cases hc
end Go.Proofs.Ytmdnmofcgmmfbaa.Round
