import Derived.Test.YtbfnkdgjcpcmbaaYWireWrites9
import Derived.WalkKit
import Derived.ProofKit
import Derived.OpenShut
import Derived.ShutString
import Derived.ChangeOld
import Derived.Below
import Derived.SizedLaws
import Derived.Deep.Slices
set_option linter.unusedVariables false
set_option linter.unusedSimpArgs false
namespace Go.Proofs.YtbfnkdgjcpcmbaaW.PrintWords
open Go.RowKit Go.ChangeShapes Go.WideShapes Go.ChangeAt
structure Opens (P : Program) (t : TypeId) {α : Type} (d : Kd α) (I : α → Prop) : Prop where
  get : ∀ {H : Type} {enc : TypeId × Value → H} {W : World} {fuel : Nat} {cs : List Value} {x : DataW H × List MemPlace}, DataW.trod enc P W 0 (fun _ => true) true fuel t cs = some x → (∀ n ∈ x.1.weights P t, n ≤ reachBytes) → ∃ a, d.K W a cs ∧ I a
structure OpensF (P : Program) (fl : List Field) (off tot : Nat) {α : Type} (d : Kd α) (I : α → Prop) : Prop where
  get : ∀ {H : Type} {enc : TypeId × Value → H} {W : World} {n : Nat} {cs : List Value} {xs : List (DataW H × List MemPlace)}, cs.length = tot → xs.length = fl.length →
    (∀ (i : Nat) (f : Field), fl[i]? = some f → DataW.trod enc P W 0 (fun _ => true) true n f.type ((cs.drop f.offset).take (P.cellsOf f.type)) = xs[i]?) → (∀ m ∈ DataW.weightsEach P (fl.map (fun f : Field => f.type)) (xs.map (·.1)), m ≤ reachBytes) → ∃ a, d.K W a (cs.drop off) ∧ I a
section
variable {P : Program} {t : TypeId} {α β : Type}
theorem Opens.int {k : IntKind} (ht : P.underlying t = some (.int k)) : Opens P t (Kd.int k) (fun n => (Lit.int k n).wf = true) := ⟨fun h _ => by
  obtain ⟨n, rfl, _, hw⟩ := DataW.trod_int ht h
  exact ⟨n, rfl, hw⟩⟩
theorem Opens.bool (ht : P.underlying t = some .bool) : Opens P t Kd.bool (fun _ => True) := ⟨fun h _ => by
  obtain ⟨n, rfl, _⟩ := DataW.trod_bool ht h
  exact ⟨n, rfl, trivial⟩⟩
theorem Opens.string (ht : P.underlying t = some .string) : Opens P t Kd.string (fun s => s.size ≤ 140737488351232) := ⟨fun h hw => by
  obtain ⟨s, rfl, rfl, hs⟩ := DataW.trod_string ht h
  have h1 := hw s.data.toList.length (by simp [DataW.weights])
  rw [Array.length_toList] at h1
  exact ⟨s, rfl, h1⟩⟩
theorem Opens.iso {d : Kd α} {I : α → Prop} (f : β → α) (g : α → β) (hg : ∀ a, f (g a) = a) (h : Opens P t d I) : Opens P t (Kd.iso d f) (fun b => I (f b)) := ⟨fun h1 h2 => by
  obtain ⟨a, h3, h4⟩ := h.get h1 h2
  refine ⟨g a, ?_, ?_⟩
  · show d.K _ (f (g a)) _
    rw [hg]
    exact h3
  · show I (f (g a))
    rw [hg]
    exact h4⟩
theorem weightsAll_mem {H : Type} {e : TypeId} {n : Nat} : ∀ {ds : List (DataW H)} {d : DataW H}, d ∈ ds → n ∈ d.weights P e → n ∈ DataW.weightsAll P e ds
  | [], _, h, _ => by simp at h
  | d0 :: ds, d, h, hn => by
    simp only [DataW.weightsAll, List.mem_append]
    rcases List.mem_cons.1 h with rfl | h
    · exact Or.inl hn
    · exact Or.inr (weightsAll_mem h hn)
theorem cells_at {W : World} {a : Addr} {n : Nat} {cs : List Value} (h : W.cells? 0 a n = some cs) : ∀ i u, cs[i]? = some u → W.cell? (a.add i) = some u := by
  intro i u hu
  obtain ⟨_, hl, hc⟩ := World.cells?_some h
  have hi : i < n := by rw [← hl]; exact (List.getElem?_eq_some_iff.1 hu).1
  rw [hc i hi]
  exact hu
theorem Opens.slice {e : TypeId} {b : Nat} {d : Kd α} {I : α → Prop} (ht : P.underlying t = some (.slice e)) (he : P.cellsOf e = d.sz) (hb : P.bytesOf e = b) (h : Opens P e d I) : Opens P t (Kd.slice e d) (fun l => l.length * b ≤ 140737488351232 ∧ ∀ x ∈ l, I x) := ⟨fun {H enc W fuel cs x} h1 h2 => by
  rcases Go.Deep.open_slice ht h1 with ⟨rfl, rfl⟩ | ⟨a, len, cap, m, n, D, Pl, rfl, _, hl, hm, hmm, rfl, hx⟩
  · exact ⟨[], ⟨none, 0, rfl, Nat.le_refl _, rfl, by simp, fun hp => absurd hp (by simp)⟩, by simp, by simp⟩
  · simp only [if_true] at hmm
    obtain rfl : cap = m := hmm.symm
    have hw : ∀ i, i < len → ∀ k ∈ (D i).weights P e, k ≤ reachBytes := fun i hi k hk => h2 k (by
      simp only [DataW.weights, ht, List.mem_cons, List.mem_append]
      exact .inr (.inl (weightsAll_mem (List.mem_map.2 ⟨i, List.mem_range.2 hi, rfl⟩) hk)))
    have hel : ∀ i, i < len → ∃ y : α, ∃ c, c.length = d.sz ∧ d.K W y c ∧ I y ∧ ∀ j u, c[j]? = some u → W.cell? (a.add (i * d.sz + j)) = some u := fun i hi => by
      obtain ⟨cs', hc1, hc2⟩ := hx i (by omega)
      obtain ⟨y, hK, hI⟩ := h.get hc2 (hw i hi)
      refine ⟨y, cs', d.K_len hK, hK, hI, fun j u hu => ?_⟩
      have := cells_at hc1 j u hu
      rw [Go.Deep.add_add, he] at this
      exact this
    have hbig := h2 ((len + (cap - len)) * P.bytesOf e) (by simp [DataW.weights, ht])
    rw [hb] at hbig
    have hbig2 : len * b ≤ 140737488351232 := Nat.le_trans (Nat.mul_le_mul_right _ (Nat.le_add_right _ _)) hbig
    by_cases h0 : len = 0
    · subst h0
      exact ⟨[], ⟨some a, cap, rfl, by simp, rfl, by simp, fun hp => absurd hp (by simp)⟩, by simp, by simp⟩
    · have : Nonempty α := ⟨(hel 0 (by omega)).choose⟩
      have : Inhabited α := ⟨Classical.choice this⟩
      obtain ⟨f, hf⟩ := Go.Deep.choose_lt hel
      have hlen : ((List.range len).map f).length = len := by simp
      refine ⟨(List.range len).map f, ⟨some a, cap, by rw [hlen], by rw [hlen]; exact hl, rfl, ?_, fun _ => ⟨a, rfl, fun j p hp => ?_⟩⟩, by rw [hlen]; exact hbig2, fun y hy => ?_⟩
      · rw [hlen]
        unfold maxLen at hm
        omega
      · have hj : j < len := by have := (List.getElem?_eq_some_iff.1 hp).1; simpa using this
        have hfj : f j = p := by
          rw [List.getElem?_map, List.getElem?_range hj] at hp
          simpa using hp
        obtain ⟨c, g1, g2, _, g4⟩ := hf j hj
        rw [hfj] at g2
        exact ⟨c, g1, g2, g4⟩
      · obtain ⟨j, hj, rfl⟩ := List.mem_map.1 hy
        obtain ⟨c, _, _, g3, _⟩ := hf j (List.mem_range.1 hj)
        exact g3⟩
theorem OpensF.last {f : Field} {off tot : Nat} {d : Kd α} {I : α → Prop} (ho : f.offset = off) (hs : off + P.cellsOf f.type = tot) (h : Opens P f.type d I) : OpensF P [f] off tot d I := ⟨fun {H enc W n cs xs} h1 h2 h3 h4 => by
  have h5 := h3 0 f rfl
  match xs, h2 with
  | [x], _ =>
    simp only [List.getElem?_cons_zero] at h5
    have e : (cs.drop f.offset).take (P.cellsOf f.type) = cs.drop off := by
      rw [ho, List.take_of_length_le]
      rw [List.length_drop]
      omega
    rw [e] at h5
    exact h.get h5 (fun m hm => h4 m (by simpa [DataW.weightsEach] using hm))⟩
theorem OpensF.cons {f : Field} {fl : List Field} {off s tot : Nat} {d : Kd α} {d2 : Kd β} {I : α → Prop} {J : β → Prop} (ho : f.offset = off) (hs : P.cellsOf f.type = s) (h : Opens P f.type d I) (k : OpensF P fl (off + s) tot d2 J) :
    OpensF P (f :: fl) off tot (Kd.pair d d2) (fun x => I x.1 ∧ J x.2) := ⟨fun {H enc W n cs xs} h1 h2 h3 h4 => by
  match xs, h2 with
  | x :: xs, h2 =>
    have h5 := h3 0 f rfl
    simp only [List.getElem?_cons_zero] at h5
    rw [ho, hs] at h5
    obtain ⟨a, hK, hI⟩ := h.get h5 (fun m hm => h4 m (by simp only [List.map_cons, DataW.weightsEach, List.mem_append]; exact .inl hm))
    obtain ⟨b, hK2, hJ⟩ := k.get h1 (by simpa using h2) (fun i f' hf => by simpa using h3 (i + 1) f' (by simpa using hf)) (fun m hm => h4 m (by simp only [List.map_cons, DataW.weightsEach, List.mem_append]; exact .inr hm))
    refine ⟨(a, b), ⟨_, _, ?_, hK, hK2⟩, hI, hJ⟩
    rw [← List.drop_drop, List.take_append_drop]⟩
theorem Opens.struct {fs : Array Field} {tot : Nat} {d : Kd α} {I : α → Prop} (ht : P.underlying t = some (.struct fs)) (hc : P.cellsOf t = tot) (h : OpensF P fs.toList 0 tot d I) : Opens P t d I := ⟨fun {H enc W fuel cs x} h1 h2 => by
  obtain ⟨xs, n, rfl, rfl, hl, hx, hf⟩ := DataW.trod_struct ht h1
  have h3 := h.get (enc := enc) (W := W) (n := n) (cs := cs) (xs := xs) (by rw [hl, hc]) (by simpa using hx) (fun i f hi => hf i f (by simpa using hi)) (fun m hm => h2 m (by simpa [DataW.weights, ht] using hm))
  simpa using h3⟩
theorem weights_small {H : Type} {ts : List TypeId} {ds : List (DataW H)} (h : (DataW.weightsEach P ts ds).all (· ≤ reachBytes) = true) {j : Nat} {d : DataW H} (ht : ts[j]? = some t) (hd : ds[j]? = some d) : ∀ n ∈ d.weights P t, n ≤ reachBytes := fun n hn => by
  have := List.all_eq_true.1 h _ (DataW.weights_mem_each ht hd n hn)
  simpa using this
end
end Go.Proofs.YtbfnkdgjcpcmbaaW.PrintWords
