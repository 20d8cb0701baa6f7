import Derived.RangeFuncNested
import Derived.RangeFuncBound
import Derived.RangeFuncCalls
import Derived.RangeFuncLeaves
import Derived.Shelf.Abstract
import Derived.Shelf.RegionOpen
import Derived.WalkKit
import Derived.OwnWalkIn
import Derived.TacticsInMore
import Derived.LoopNIn
import Derived.LoopIn
import Derived.Maps.AppendAt
import Derived.Test.YtmdnmofcgmmfbaaYTraceReads26
import Derived.Test.YtmdnmofcgmmfbaaYTraceReads19
set_option maxHeartbeats 8000000
namespace Go.Proofs.Ytmdnmofcgmmfbaa.T
open Go.RowKit Go.Proofs.YtmdnmofcgmmfbaaW.PrintWords Go.Proofs.YtmdnmofcgmmfbaaW.PrintLast Go.Proofs.YtmdnmofcgmmfbaaW.PrintMore
attribute [local go_sem] max2_int min2_int max_two min_two max_three min_three max_four min_four   -- for this text's walks alone
set_option linter.unusedVariables false
set_option linter.unusedSimpArgs false
open Go
attribute [local go_sem] Oper.semAt_some
set_option maxHeartbeats 400000
set_option maxRecDepth 100000
def kx : Kd (S40 × Option Value) where
  sz := 5
  E := [53]
  K := fun w x cs => match x.2 with
    | none => k40.K w x.1 cs
    | some v => cs = [.int .i64 x.1.f0, .int .i64 x.1.f1, .string x.1.f2, .bool x.1.f3, v] ∧ v.oneCell' = true
  M := fun w base ok x cs => match x.2 with
    | none => k40.M w base ok x.1 cs
    | some v => cs = [.int .i64 x.1.f0, .int .i64 x.1.f1, .string x.1.f2, .bool x.1.f3, v] ∧ v.oneCell' = true
  K_len := by
    rintro w ⟨x, _ | v⟩ cs h
    · exact k40.K_len h
    · rw [h.1]; rfl
  K_one := by
    rintro w ⟨x, _ | v⟩ cs h u hu
    · exact k40.K_one h u hu
    · rw [h.1] at hu
      simp at hu
      rcases hu with rfl | rfl | rfl | rfl | rfl <;> first | rfl | exact h.2
  K_below := by
    rintro w w1 ⟨x, _ | v⟩ cs hb h
    · exact k40.K_below hb h
    · exact h
  K_of_M := by
    rintro w base ok ⟨x, _ | v⟩ cs h
    · exact k40.K_of_M h
    · exact h
  M_mono := by
    rintro w base ok ok' ⟨x, _ | v⟩ cs hk h
    · exact k40.M_mono hk h
    · exact h
  M_bound := by
    rintro w base ok ⟨x, _ | v⟩ cs h
    · exact k40.M_bound h
    · exact h
  M_move := by
    rintro w w1 base ok ⟨x, _ | v⟩ cs hk h
    · exact k40.M_move hk h
    · exact h
  M_lower := by
    rintro w base base' ok ⟨x, _ | v⟩ cs hk h
    · exact k40.M_lower hk h
    · exact h
def dn (L : List S40) : List (S40 × Option Value) := L.map (fun x => (x, none))
theorem dn_len (L : List S40) : (dn L).length = L.length := by simp [dn]
def zl (L0 : List S40) (z : S40) (v : Value) : List ((S40 × Option Value) × Nat) := (dn L0).zipIdx ++ [((z, some v), L0.length)]
theorem dn_zip (L : List S40) : (dn L).zipIdx.length = L.length := by rw [List.length_zipIdx, dn_len]
theorem zl_at (L0 : List S40) (z : S40) (v : Value) (q : (S40 × Option Value) × Nat) : (zl L0 z v).getD (L0.length : Int).toNat q = ((z, some v), L0.length) := by
  unfold zl
  rw [List.getD_eq_getElem?_getD, Int.toNat_natCast, List.getElem?_append_right (by rw [dn_zip]; omega), dn_zip, Nat.sub_self]
  rfl
theorem zl_set (L0 : List S40) (z : S40) (v : Value) (q : (S40 × Option Value) × Nat) : (zl L0 z v).set (L0.length : Int).toNat q = (dn L0).zipIdx ++ [q] := by
  unfold zl
  rw [Int.toNat_natCast, List.set_append_right _ _ (by rw [dn_zip]; omega), dn_zip, Nat.sub_self]
  rfl
theorem dn_snoc (L0 : List S40) (z : S40) : (dn (L0 ++ [z])).zipIdx = (dn L0).zipIdx ++ [((z, none), L0.length)] := by
  have e : dn (L0 ++ [z]) = dn L0 ++ [(z, none)] := by simp [dn]
  rw [e, List.zipIdx_append, dn_len, Nat.zero_add]
  rfl
theorem kx_all {W : World} {base : Nat} {vv : Value} {L : List S40} {f : Nat → Nat} (h : (Kd.tag f kx).R 40 W base (fun _ => True) vv (dn L).zipIdx) : k40.S 40 W base (fun _ => True) vv L := by
  obtain ⟨h0, inner, ho, hr⟩ := h
  rw [dn_zip] at ho
  refine ⟨f, h0, inner, by rw [List.length_zipIdx]; exact ho, ?_, fun j p hp => ?_⟩
  · rw [hr.1, dn_zip, List.length_zipIdx]
    rfl
  · rw [List.getElem?_zipIdx, Nat.zero_add] at hp
    obtain ⟨x, hx, rfl⟩ := Option.map_eq_some_iff.1 hp
    exact hr.2 j ((x, none), j) (by rw [List.getElem?_zipIdx, Nat.zero_add]; simp [dn, hx])
theorem k53_ok {W : World} {base : Nat} {ok ok' : Nat → Prop} {v : Value} {xs : List S53} (h : k53.R 53 W base ok v xs) (hk : ∀ k, v.ownBlock = some k → ok' k) : k53.R 53 W base ok' v xs := by
  obtain ⟨h0, inner, ho, hr⟩ := h
  exact ⟨hk, inner, ho, hr.1, fun j p hp => by rw [k53_openM (hr.2 j p hp)]; exact k53_mkM _ _ _ _⟩
def CB (b base : Nat) (L : List S40) (W : World) : Prop :=
  (L = [] ∧ Boxed W b 37 (.slice none 0 0)) ∨ ∃ L0 z g cap v f, L = L0 ++ [z] ∧ Boxed W b 37 (.slice (some ⟨g, 0, none⟩) (L0.length + 1) cap) ∧ (Kd.tag f kx).R 40 W base (fun k => some k ≠ v.ownBlock) (.slice (some ⟨g, 0, none⟩) (L0.length + 1) cap) (zl L0 z v) ∧ k53.R 53 W base (fun _ => True) v z.f4
theorem CB.own {β : Type} {b base B : Nat} {f : β → List S40} : OwnFrom B (fun s W => CB b base (f s) W) := by
  rintro s X Y row (⟨h1, h2⟩ | ⟨L0, z, g, cap, v, f, h1, h2, h3, h4⟩) hg hr
  · exact .inl ⟨h1, boxed_own (β := Unit) b 37 (fun _ => .slice none 0 0) () X Y row h2 hg (fun r e => (hr r e).2)⟩
  · exact .inr ⟨L0, z, g, cap, v, f, h1, boxed_own (β := Unit) b 37 (fun _ => .slice (some ⟨g, 0, none⟩) (L0.length + 1) cap) () X Y row h2 hg (fun r e => (hr r e).2), Ytmdnmofcgmmfbaa.Round.R_own h3 hg hr, Ytmdnmofcgmmfbaa.Round.R_own h4 hg hr⟩
theorem kx_close {W : World} {base g cap : Nat} {L0 : List S40} {z : S40} {v : Value} {f : Nat → Nat} (h : (Kd.tag f kx).R 40 W base (fun k => some k ≠ v.ownBlock) (.slice (some ⟨g, 0, none⟩) (L0.length + 1) cap) (zl L0 z v)) (h4 : k53.R 53 W base (fun _ => True) v z.f4) :
    ∃ f, (Kd.tag f kx).R 40 W base (fun _ => True) (.slice (some ⟨g, 0, none⟩) (L0.length + 1) cap) (dn (L0 ++ [z])).zipIdx := by
  refine ⟨fun k => if some k = v.ownBlock then L0.length else f k, ?_⟩
  have h' := Kd.R_tag (f' := fun k => if some k = v.ownBlock then L0.length else f k) h (fun k hk _ => if_neg hk)
  have hT := Kd.R_mono (ok' := fun _ => True) h' (fun _ _ => trivial)
  obtain ⟨cells, hcells⟩ := Kd.R_typed hT g rfl
  obtain ⟨c, hcl, hM, hcc, _⟩ := Kd.R_elem hT ((z, some v), 0) (L0.length : Int) (by omega) (by omega)
  rw [zl_at] at hM
  obtain ⟨rfl, hone⟩ := hM
  have hne : ∀ k, v.ownBlock = some k → k ≠ g := (Kd.R_types h4 hcells (by intro q hq; simp [k53, Kd.iso, Kd.pair, Kd.int, Kd.string, Kd.scalar] at hq; omega)).1 |> fun hh k hk => (hh k hk).2
  have hin : k53.R 53 W base (fun k => k ≠ g ∧ (if some k = v.ownBlock then L0.length else f k) = L0.length) v z.f4 := k53_ok h4 (fun k hk => ⟨hne k hk, if_pos hk.symm⟩)
  have hs := (Kd.R_seg (x' := ((z, none), L0.length)) (seg := []) (j := 0) (okp := fun k => k ≠ g) hT (L0.length : Int) (by omega) (by omega) hcl hcc (by simp) (by simp only [List.take_zero, List.nil_append, List.length_nil, Nat.add_zero, List.drop_zero]; exact k40_mkM W base _ z hin) (fun k hk => ⟨trivial, hk⟩)).1
  rw [zl_set, ← dn_snoc] at hs
  exact hs
theorem s_own {W Y : World} {base B : Nat} {v : Value} {xs : List S40} {row : Option Nat} (h : k40.S 40 W base (fun _ => True) v xs) (hg : W.grownBy Y row) (hr : ∀ r, row = some r → B ≤ r ∧ ∃ o : Obj, W.heap[r]? = some o ∧ o.isCells = false) : k40.S 40 Y base (fun _ => True) v xs := by
  obtain ⟨f, h⟩ := h
  exact ⟨f, Ytmdnmofcgmmfbaa.Round.R_own h hg hr⟩
theorem kx_slice {v1 : Value} {W : World} {base : Nat} {ys : List S53} (h : k53.R 53 W base (fun _ => True) v1 ys) : v1.oneCell' = true := by
  obtain ⟨A, c, rfl⟩ := Kd.R_slice h
  rfl
theorem kx_cell {f : Nat → Nat} {W : World} {base g cap : Nat} {L0 : List S40} {z : S40} {v : Value} {ok : Nat → Prop} (h : (Kd.tag f kx).R 40 W base ok (.slice (some ⟨g, 0, none⟩) (L0.length + 1) cap) (zl L0 z v)) :
    W.cell? ⟨g, L0.length * 5 + 4, none⟩ = some v ∧ W.frozen? ⟨g, L0.length * 5 + 4, none⟩ = false := by
  obtain ⟨c, hcl, hM, hcc, hfr⟩ := Kd.R_elem h ((z, some v), 0) (L0.length : Int) (by omega) (by omega)
  rw [zl_at] at hM
  obtain ⟨rfl, hone⟩ := hM
  exact ⟨hcc 4 v rfl, hfr 4⟩
theorem kx_over {f : Nat → Nat} {W w4 : World} {base g cap : Nat} {L0 : List S40} {z : S40} {v v1 : Value} (h3 : (Kd.tag f kx).R 40 W base (fun k => some k ≠ v.ownBlock) (.slice (some ⟨g, 0, none⟩) (L0.length + 1) cap) (zl L0 z v))
    (hg : W.grownBy w4 v.ownBlock) (hat : v1.ownBlock = v.ownBlock ∨ ∃ b, v1.ownBlock = some b ∧ W.heap.size ≤ b) : (Kd.tag f kx).R 40 w4 base (fun k => some k ≠ v1.ownBlock) (.slice (some ⟨g, 0, none⟩) (L0.length + 1) cap) (zl L0 z v) := by
  refine Kd.R_mono (Kd.R_step (Kd.R_bound h3) (fun k hk hlt => hg.block k hlt hk.1)) (fun k hk => ?_)
  rcases hat with e | ⟨b, e, hb⟩
  · rw [e]
    exact hk.1
  · rw [e]
    intro e2
    have := Option.some.inj e2
    have := hk.2.2.1
    omega
theorem kx_put {f : Nat → Nat} {w4 : World} {base g cap : Nat} {L0 : List S40} {z : S40} {v v1 : Value} {ys : List S53} (h3 : (Kd.tag f kx).R 40 w4 base (fun k => some k ≠ v1.ownBlock) (.slice (some ⟨g, 0, none⟩) (L0.length + 1) cap) (zl L0 z v))
    (h4 : k53.R 53 w4 base (fun _ => True) v1 (z.f4 ++ ys)) :
    (Kd.tag f kx).R 40 (w4.setCell ⟨g, L0.length * 5 + 4, none⟩ v1) base (fun k => some k ≠ v1.ownBlock) (.slice (some ⟨g, 0, none⟩) (L0.length + 1) cap) (zl L0 ⟨z.f0, z.f1, z.f2, z.f3, z.f4 ++ ys⟩ v1) ∧ k53.R 53 (w4.setCell ⟨g, L0.length * 5 + 4, none⟩ v1) base (fun _ => True) v1 (z.f4 ++ ys) := by
  obtain ⟨cells, hcells⟩ := Kd.R_typed h3 g rfl
  refine ⟨?_, Kd.R_set h4 hcells (by intro q hq; simp [k53, Kd.iso, Kd.pair, Kd.int, Kd.string, Kd.scalar] at hq; omega) _ _⟩
  obtain ⟨c, hcl, hM, hcc, _⟩ := Kd.R_elem h3 ((z, some v), 0) (L0.length : Int) (by omega) (by omega)
  rw [zl_at] at hM
  obtain ⟨rfl, hone⟩ := hM
  have hs := (Kd.R_seg (x' := ((⟨z.f0, z.f1, z.f2, z.f3, z.f4 ++ ys⟩, some v1), L0.length)) (seg := [v1]) (j := 4) (okp := fun _ => False) h3 (L0.length : Int) (by omega) (by omega) hcl hcc (by show 4 + 1 ≤ 5; omega) ⟨rfl, kx_slice h4⟩ (fun k hk => hk.elim)).1
  rw [zl_set] at hs
  exact hs
theorem kx_end {f : Nat → Nat} {W w4 : World} {base b g cap : Nat} {L0 : List S40} {z : S40} {v v1 : Value} {ys : List S53} (h3 : (Kd.tag f kx).R 40 W base (fun k => some k ≠ v.ownBlock) (.slice (some ⟨g, 0, none⟩) (L0.length + 1) cap) (zl L0 z v))
    (h4 : k53.R 53 W base (fun _ => True) v z.f4) (hbx : Boxed W b 37 (.slice (some ⟨g, 0, none⟩) (L0.length + 1) cap)) (hb : b < base) (hbase : base ≤ W.heap.size) (hg : W.grownBy w4 v.ownBlock) (hat : v1.ownBlock = v.ownBlock ∨ ∃ b, v1.ownBlock = some b ∧ W.heap.size ≤ b) (ho : k53.R 53 w4 base (fun _ => True) v1 (z.f4 ++ ys)) :
    CB b base (L0 ++ [⟨z.f0, z.f1, z.f2, z.f3, z.f4 ++ ys⟩]) (w4.setCell ⟨g, L0.length * 5 + 4, none⟩ v1) ∧ KeepsOthers W (w4.setCell ⟨g, L0.length * 5 + 4, none⟩ v1) ∧ (∀ k, k < base → (w4.setCell ⟨g, L0.length * 5 + 4, none⟩ v1).heap[k]? = W.heap[k]?) ∧ (∀ n₀, n₀ ≤ base → Below n₀ W (w4.setCell ⟨g, L0.length * 5 + 4, none⟩ v1)) ∧ W.heap.size ≤ (w4.setCell ⟨g, L0.length * 5 + 4, none⟩ v1).heap.size := by
  obtain ⟨h5, h6⟩ := kx_put (kx_over h3 hg hat) ho
  have hgb : base ≤ g := Kd.R_base h3 g rfl
  obtain ⟨i1, hown⟩ := Kd.R_own h4
  have hk : ∀ k, k < base → (w4.setCell ⟨g, L0.length * 5 + 4, none⟩ v1).heap[k]? = W.heap[k]? := fun k hk => (Below.heap_setCell _ _ _ k (by show k ≠ g; omega)).trans (hg.block k (by omega) (fun e => by have := Kd.R_base h4 k e.symm; omega))
  have hko : KeepsOthers W (w4.setCell ⟨g, L0.length * 5 + 4, none⟩ v1) := (KeepsOthers.of_grownBy hg (fun j o ej hj => Ytmdnmofcgmmfbaa.Round.own_cells hown j o ej hj)).trans (KeepsOthers.setCell _ _ _)
  exact ⟨.inr ⟨L0, _, g, cap, v1, f, rfl, (hk b hb).trans hbx, h5, h6⟩, hko, hk, fun n₀ hn => ((Below.refl n₀ W).grown hg (by omega) (fun j ej => by have := Kd.R_base h4 j ej; omega)).setCell (p := ⟨g, L0.length * 5 + 4, none⟩) (Nat.le_trans hn hgb) v1, hko.size⟩
def trace_Cycles.step (acc : List S40) (t : Int) (r : S28) : List S40 :=
  if r.f0 = true then acc ++ [⟨t, r.f2, r.f4, r.f1, r.f6⟩] else if acc = [] then [] else acc.dropLast ++ [⟨(acc.getLastD z40).f0, (acc.getLastD z40).f1, (acc.getLastD z40).f2, (acc.getLastD z40).f3, (acc.getLastD z40).f4 ++ r.f6⟩]
def trace_Cycles.cyc (l0 : List (List S28)) (node : Int) (ts : List Nat) : List S40 := ts.foldl (fun acc (t : Nat) => trace_Cycles.step acc (t : Int) (trace_ticks.rep l0 t node)) []
theorem trace_Cycles.cyc_snoc (l0 : List (List S28)) (node : Int) (ts : List Nat) (t : Nat) : trace_Cycles.cyc l0 node (ts ++ [t]) = trace_Cycles.step (trace_Cycles.cyc l0 node ts) (t : Int) (trace_ticks.rep l0 t node) := by simp [trace_Cycles.cyc]
def trace_Cycles.ok (l0 : List (List S28)) (node : Int) : Prop := l0.length ≤ 1000000 ∧ ∀ x, x < l0.length → (trace_ticks.rep l0 x node).f6.length ≤ 1000000
instance trace_Cycles.okd (l0 : List (List S28)) (node : Int) : Decidable (trace_Cycles.ok l0 node) := by unfold trace_Cycles.ok; infer_instance
theorem trace_Cycles.step_last (L0 : List S40) (z : S40) (t : Int) (r : S28) (h : r.f0 = false) : trace_Cycles.step (L0 ++ [z]) t r = L0 ++ [⟨z.f0, z.f1, z.f2, z.f3, z.f4 ++ r.f6⟩] := by
  unfold trace_Cycles.step
  rw [if_neg (by rw [h]; decide), if_neg (by simp)]
  simp [List.getLastD_eq_getLast?]
theorem trace_Cycles.step_len (L : List S40) (t : Int) (r : S28) (N M : Nat) (h1 : L.length ≤ N) (h2 : ∀ z ∈ L, z.f4.length ≤ N * M) (h3 : r.f6.length ≤ M) : (trace_Cycles.step L t r).length ≤ N + 1 ∧ ∀ z ∈ trace_Cycles.step L t r, z.f4.length ≤ (N + 1) * M := by
  have e : (N + 1) * M = N * M + M := Nat.succ_mul N M
  rcases hr : r.f0 with _ | _
  · rcases List.eq_nil_or_concat L with rfl | ⟨L0, z, rfl⟩
    · unfold trace_Cycles.step
      rw [if_neg (by rw [hr]; decide), if_pos rfl]
      exact ⟨Nat.zero_le _, fun z hz => by simp at hz⟩
    · rw [List.concat_eq_append] at h1 h2 ⊢
      rw [trace_Cycles.step_last _ _ _ _ hr]
      refine ⟨by simp at h1 ⊢; omega, fun y hy => ?_⟩
      rcases List.mem_append.1 hy with hy | hy
      · have := h2 y (List.mem_append_left _ hy)
        omega
      · rw [List.mem_singleton.1 hy]
        have := h2 z (by simp)
        simp only [List.length_append]
        omega
  · unfold trace_Cycles.step
    rw [if_pos hr]
    refine ⟨by simp; omega, fun y hy => ?_⟩
    rcases List.mem_append.1 hy with hy | hy
    · have := h2 y hy
      omega
    · rw [List.mem_singleton.1 hy]
      show r.f6.length ≤ _
      omega
theorem trace_Cycles.cyc_len (l0 : List (List S28)) (node : Int) (M : Nat) (hM : ∀ x, x < l0.length → (trace_ticks.rep l0 x node).f6.length ≤ M) : ∀ (n : Nat) (ts : List Nat), ts.length = n → (∀ t ∈ ts, t < l0.length) → (trace_Cycles.cyc l0 node ts).length ≤ n ∧ ∀ z ∈ trace_Cycles.cyc l0 node ts, z.f4.length ≤ n * M
  | 0, ts, h, _ => by
    obtain rfl := List.eq_nil_of_length_eq_zero h
    exact ⟨Nat.le_refl _, fun z hz => by simp [trace_Cycles.cyc] at hz⟩
  | n + 1, ts, h, hts => by
    rcases List.eq_nil_or_concat ts with rfl | ⟨L0, z, rfl⟩
    · simp at h
    · rw [List.concat_eq_append] at h hts ⊢
      obtain ⟨h1, h2⟩ := trace_Cycles.cyc_len l0 node M hM n L0 (by simpa using h) (fun t ht => hts t (List.mem_append_left _ ht))
      rw [trace_Cycles.cyc_snoc]
      exact trace_Cycles.step_len _ _ _ n M h1 h2 (hM z (hts z (by simp)))
def trace_Cycles.f (l0 : List (List (S28))) (a1 : Int) : Option ((List (S40))) := if trace_Cycles.ok l0 a1 then some (trace_Cycles.cyc l0 a1 (List.range l0.length)) else none
def trace_Cycles.cs (l0 : List (List S28)) (node : Int) (pre : List (Fin l0.length)) : List S40 := trace_Cycles.cyc l0 node (pre.map Fin.val)
theorem trace_Cycles.cs_snoc (l0 : List (List S28)) (node : Int) (pre : List (Fin l0.length)) (x : Fin l0.length) : trace_Cycles.cs l0 node (pre ++ [x]) = trace_Cycles.step (trace_Cycles.cs l0 node pre) (x.val : Int) (trace_ticks.rep l0 x.val node) := by
  unfold trace_Cycles.cs
  rw [List.map_append]
  exact trace_Cycles.cyc_snoc _ _ _ _
theorem trace_Cycles.cs_len {l0 : List (List S28)} {node : Int} (h : trace_Cycles.ok l0 node) (pre : List (Fin l0.length)) : (trace_Cycles.cs l0 node pre).length ≤ pre.length ∧ ∀ z ∈ trace_Cycles.cs l0 node pre, z.f4.length ≤ pre.length * 1000000 :=
  trace_Cycles.cyc_len l0 node 1000000 h.2 pre.length _ (by simp) (fun t ht => by obtain ⟨x, _, rfl⟩ := List.mem_map.1 ht; exact x.isLt)
def trace_Cycles.I (l0 : List (List S28)) (node : Int) (w w1 : World) (pre : List (Fin l0.length)) (W : World) : Prop := CB w.heap.size w1.heap.size (trace_Cycles.cs l0 node pre) W ∧ (Below w.heap.size w W ∧ w1.heap.size ≤ W.heap.size)
theorem trace_Cycles.I_own {l0 : List (List S28)} {node : Int} {w w1 : World} (hz : w.heap.size ≤ w1.heap.size) : OwnFrom w1.heap.size (trace_Cycles.I l0 node w w1) :=
  OwnFrom.and CB.own (OwnFrom.and (ownFrom_below (Nat.le_refl _) hz) (Ytmdnmofcgmmfbaa.Round.ownFrom_size _ _))
theorem trace_Cycles.calls (A0 : Option Addr) (c0 : Nat) (l0 : List (List (S28))) (a1 : Int) (r : List (S40)) (w : World) (hr0 : Kd.C (Kd.slice 28 k28) w A0 l0.length l0) (hc0 : l0.length ≤ c0) (h : trace_Cycles.f l0 a1 = some r) :
    Calls Try.prog 23 #[.slice A0 l0.length c0, .int .i64 a1] w fun e w' => ∃ v0_ : Value, e = .returned (v0_) ∧ Kd.S k40 40 w' w.heap.size (fun _ => True) v0_ r ∧ Below w.heap.size w w' := by
  unfold trace_Cycles.f at h
  by_cases hok : trace_Cycles.ok l0 a1
  case neg => rw [if_neg hok] at h; cases h
  rw [if_pos hok] at h
  obtain rfl := Option.some.inj h
  clear h
  obtain ⟨A, c, hall⟩ := trace_ticks.all w A0 c0 l0 a1 hr0
  have HALL := Sd.mk hall
  have HOK := Sd.mk hok
  clear hall hr0 hok
  refine (callsIn_wide (n := 3)).1 (callsIn_of_wp_marks Try.func23 rfl trivial (wpIn_wide.2 ?_) rfl)
  simp only [Try.ntmps23, List.size_toArray, List.length_cons, List.length_nil, Nat.reduceAdd, Nat.reduceSub, Array.replicate_succ, Array.replicate_zero, List.push_toArray, List.append_toArray, List.nil_append, List.cons_append]
  have hnf : ∀ (l : Array Value) (w : World), (binOp .eql 57 (.func (.func 46) #[] l) .nilFunc).run Try.prog w = .ok (.bool false) w := fun _ _ => rfl
  go_wp2_with (first | (go_at_call 38; (with_reducible refine (trace_ticks.calls A0 c0 l0.length a1 0 (l0.length : Int) _).mono ?_); rintro e' w1 ⟨rfl, hs, q1, q2, q3, q4, hb⟩; have HS := Sd.mk hs; have Q1 := Sd.mk q1; have Q2 := Sd.mk q2; have Q3 := Sd.mk q3; have Q4 := Sd.mk q4; have HB1 := Sd.mk hb; have KO := Sd.mk (blk_below (blk_new w (.cells #[.slice none 0 0] 37)) hb); clear hs q1 q2 q3 q4 hb))
  simp only [World.size_alloc] at HS Q1 Q2 Q3 Q4 HB1 KO ⊢
  have HBW : Sd (Below w.heap.size w w1) := ⟨(below_alloc (Below.refl _ w) _).trans (HB1.out.mono (by omega))⟩
  refine (wpIn_wide (n := 3)).1 ?_
  refine wpIn_rangeFunc_ownH (F := Fence.wide) rfl (by decide : 1 ≤ 3) (gf := 46) (lb := #[.pointer (some ⟨w.heap.size + 1 + 2, 0, none⟩), .pointer (some ⟨w.heap.size + 1 + 3, 0, none⟩), .pointer (some ⟨w.heap.size + 1, 0, none⟩), .pointer (some ⟨w.heap.size + 1 + 1, 0, none⟩)]) rfl trivial (enters_of Try.func46 (by kernel_rfl) rfl)
    (trace_ticks.stops 2 (by decide) _ _ _ _ w A0 c0 l0 a1 0 (l0.length : Int) 0 l0.length rfl (by omega) A c HOK.out.1 (fun x hx => (HALL.out x hx).2.2) w1 (fun k hk => HBW.out.block k hk) Q1.out Q2.out Q3.out Q4.out) trace_ticks.Kp.trans (trace_ticks.Kp.book (by have := HS.out; omega) (by have := HS.out; omega) (by have := HS.out; omega) (by have := HS.out; omega) (by have := HS.out; omega)) (Below.refl _ _) (fun _ => rfl)
    (trace_Cycles.I l0 a1 w w1)
    (fun _ _ _ => False)
    (trace_Cycles.I_own HBW.out.size)
    (fun _ _ _ _ _ hs _ _ => hs)
    ⟨.inl ⟨rfl, KO.out⟩, HBW.out, Nat.le_refl _⟩
    (fun x a' W => ∃ g, w1.heap.size ≤ g ∧ W.heap[g]? = some (.cells #[.bool (trace_ticks.rep l0 x.val a1).f0, .bool (trace_ticks.rep l0 x.val a1).f1, .int .i64 (trace_ticks.rep l0 x.val a1).f2, .int .i64 (trace_ticks.rep l0 x.val a1).f3, .string (trace_ticks.rep l0 x.val a1).f4, .int .i64 (trace_ticks.rep l0 x.val a1).f5, .slice (A x.val) (trace_ticks.rep l0 x.val a1).f6.length (c x.val)] 28 (0, 0)) ∧ a' = ⟨#[.slice A0 l0.length c0, .int .i64 a1, undef, undef, .slice none 0 0, .pointer (some ⟨w.heap.size, 0, none⟩), .int .i64 (x.val : Int), .pointer (some ⟨g, 0, none⟩), undef, .slice A0 l0.length c0, .int .i64 a1, .slice A0 l0.length c0, .int .i64 (l0.length : Int), .func (.func 46) #[] #[.pointer (some ⟨w.heap.size + 1 + 2, 0, none⟩), .pointer (some ⟨w.heap.size + 1 + 3, 0, none⟩), .pointer (some ⟨w.heap.size + 1, 0, none⟩), .pointer (some ⟨w.heap.size + 1 + 1, 0, none⟩)], .int .i64 (x.val : Int), .agg #[.bool (trace_ticks.rep l0 x.val a1).f0, .bool (trace_ticks.rep l0 x.val a1).f1, .int .i64 (trace_ticks.rep l0 x.val a1).f2, .int .i64 (trace_ticks.rep l0 x.val a1).f3, .string (trace_ticks.rep l0 x.val a1).f4, .int .i64 (trace_ticks.rep l0 x.val a1).f5, .slice (A x.val) (trace_ticks.rep l0 x.val a1).f6.length (c x.val)], undef, undef, undef, undef, undef, undef, undef, undef, undef, undef, undef, undef, undef, undef, undef, undef, undef, undef, undef, undef, undef, undef, undef, undef, undef, undef, undef, undef, undef, undef, undef, undef], []⟩)
    (fun x a' => ?hAx) ?assign ?body ?done ?stop
  case hAx =>
    rintro s X Y row ⟨g, h1, h2, h3⟩ hg hr
    refine ⟨g, h1, ?_, h3⟩
    exact Ytmdnmofcgmmfbaa.Round.blk_own (β := Unit) g _ rfl () X Y row h2 hg (fun r e => (hr r e).2)
  case stop => exact fun D cc pre W _ _ hs => hs.elim
  case assign =>
    intro l pre x W K hI hK
    have hu28 := Try.underlying28
    have hz : w1.heap.size ≤ W.heap.size := hI.2.2
    have HII := Sd.mk hI
    have HZ := Sd.mk hz
    clear hI hz
    unfold trace_ticks.val
    gi_wp2
    exact hK _ _ ((KeepsOthers.alloc _ _).from _) (by
      have h1 := HS.out
      have h2 := HZ.out
      exact trace_ticks.Kp.below (below_alloc (Below.refl _ W) _) (by omega) (by omega) (by omega) (by omega) (by omega)) ((trace_Cycles.I_own HBW.out.size).alloc _ HII.out) ⟨W.heap.size, HZ.out, blk_new W _, rfl⟩
  case body =>
    rintro l pre x a' W hl ⟨rr, hrr⟩ ⟨hCB, hB, hz⟩ ⟨g, hgz, hgb, rfl⟩ hlt
    have hgl : g < W.heap.size := blk_lt hgb
    have hg0 : W.cell? ⟨g, 0, none⟩ = some (.bool (trace_ticks.rep l0 x.val a1).f0) := (blk_cell hgb 0).trans rfl
    have hg1 : W.cell? ⟨g, 1, none⟩ = some (.bool (trace_ticks.rep l0 x.val a1).f1) := (blk_cell hgb 1).trans rfl
    have hg2 : W.cell? ⟨g, 2, none⟩ = some (.int .i64 (trace_ticks.rep l0 x.val a1).f2) := (blk_cell hgb 2).trans rfl
    have hg4 : W.cell? ⟨g, 4, none⟩ = some (.string (trace_ticks.rep l0 x.val a1).f4) := (blk_cell hgb 4).trans rfl
    have hg6 : W.cell? ⟨g, 6, none⟩ = some (.slice (A x.val) (trace_ticks.rep l0 x.val a1).f6.length (c x.val)) := (blk_cell hgb 6).trans rfl
    have HB2 := Sd.mk hB
    have HZ := Sd.mk hz
    have HG := Sd.mk hgb
    have HGZ := Sd.mk hgz
    have HC : Sd (Kd.C k53 W (A x.val) (trace_ticks.rep l0 x.val a1).f6.length (trace_ticks.rep l0 x.val a1).f6) := ⟨Kd.C_below (HALL.out x.val x.isLt).2.1 hB⟩
    have HCL := Sd.mk (trace_Cycles.cs_len HOK.out pre)
    have HLN : Sd (pre.length * 1000000 + (trace_ticks.rep l0 x.val a1).f6.length ≤ 1000000000000 ∧ pre.length < 1000000) := ⟨by
      have h2 := HOK.out.2 x.val x.isLt
      have h3 := HOK.out.1
      have h4 : pre.length < 1000000 := by omega
      exact ⟨by omega, h4⟩⟩
    have HLT := Sd.mk hlt
    clear hgb hB hz hgz hlt
    rcases hp : (trace_ticks.rep l0 x.val a1).f0 with _ | _
    · rw [hp] at hg0
      rcases hCB with ⟨hL, hbx⟩ | ⟨L0, z, g2, cap, v, f, hL, hbx, h3, h4⟩
      · have hva := hbx.cell
        have HBX := Sd.mk hbx
        have HL := Sd.mk hL
        have HP := Sd.mk hp
        clear hbx hL hp
        gi_wp2
        refine ⟨KeepsFrom.refl _ _, trace_ticks.Kp.below (Below.refl _ W) (by have := HS.out; have := HZ.out; omega) (by have := HS.out; have := HZ.out; omega) (by have := HS.out; have := HZ.out; omega) (by have := HS.out; have := HZ.out; omega) (by have := HS.out; have := HZ.out; omega), .inl ⟨?_, HBX.out⟩, HB2.out, HZ.out⟩
        rw [trace_Cycles.cs_snoc, HL.out]
        simp [trace_Cycles.step, HP.out]
      · have hva := hbx.cell
        have HBX := Sd.mk hbx
        have HL := Sd.mk hL
        have HP := Sd.mk hp
        have H3 := Sd.mk h3
        have H4 := Sd.mk h4
        clear hbx hL hp h3 h4
        have hll : L0.length < 1000000 := by
          have h1 := HCL.out.1
          have h2 := HLN.out.2
          rw [HL.out, List.length_append] at h1
          omega
        have t1 : decide (0 < (L0.length : Int) + 1) = true := decide_eq_true (by omega)
        have t2 : 0 ≤ (L0.length : Int) := by omega
        have t3 : (L0.length : Int) < (L0.length : Int) + 1 := by omega
        have t4 : wrap64 (L0.length : Int) = (L0.length : Int) := by simp only [wrap64]; omega
        obtain ⟨A4, c4, rfl⟩ := Kd.R_slice H4.out
        have hc4 := (kx_cell H3.out).1
        have HLZ : Sd ((z.f4.length + (trace_ticks.rep l0 x.val a1).f6.length) * 40 ≤ 140737488355328) := ⟨by
          have h1 := HCL.out.2 z (by rw [HL.out]; simp)
          have h2 := HLN.out.1
          omega⟩
        gi_wp2
        clear t4
        refine Ytmdnmofcgmmfbaa.Round.start_in (m := 11) (S := fun w' => w'.cell? ⟨g2, L0.length * 5 + 4, none⟩ = some (.slice A4 z.f4.length c4) ∧ w'.cell? ⟨g, 6, none⟩ = some (.slice (A x.val) (trace_ticks.rep l0 x.val a1).f6.length (c x.val))) (ds := [7, 10]) #[false,false,false,false,false,false,false,false,false,false,false] (by kernel_rfl) (by rintro ⟨_, _, q⟩; exact q) (by kernel_rfl) rfl rfl ⟨hc4, hg6⟩ (fun hHeld => ?_)
        refine pure_ (i := 0) (N := some 37) (v := ?_) (a' := ?_) #[true,false,false,false,false,false,false,false,false,false,false] rfl rfl (by kernel_rfl) (fun _ _ _ h => h) (Or.inl ⟨by rfl, ?_⟩) ?_ ?_
        rotate_left
        · intro w'
          go_simp
          with_reducible rfl
        rotate_left
        · simp only [Act.put, List.setIfInBounds_toArray, List.set_cons_zero, List.set_cons_succ, i64_w, i32_w]
          rfl
        refine pure_ (i := 1) (N := some 38) (v := ?_) (a' := ?_) #[true,true,false,false,false,false,false,false,false,false,false] rfl rfl (by kernel_rfl) (fun _ _ _ h => h) (Or.inl ⟨by rfl, ?_⟩) ?_ ?_
        rotate_left
        · intro w'
          go_simp
          with_reducible rfl
        rotate_left
        · simp only [Act.put, List.setIfInBounds_toArray, List.set_cons_zero, List.set_cons_succ, i64_w, i32_w]
          rfl
        refine pure_ (i := 2) (N := some 39) (v := ?_) (a' := ?_) #[true,true,true,false,false,false,false,false,false,false,false] rfl rfl (by kernel_rfl) (fun _ _ _ h => h) (Or.inl ⟨by rfl, ?_⟩) ?_ ?_
        rotate_left
        · intro w'
          go_simp
          with_reducible rfl
        rotate_left
        · simp only [Act.put, List.setIfInBounds_toArray, List.set_cons_zero, List.set_cons_succ, i64_w, i32_w]
          rfl
        refine pure_ (i := 3) (N := some 40) (v := ?_) (a' := ?_) #[true,true,true,true,false,false,false,false,false,false,false] rfl rfl (by kernel_rfl) (fun _ _ _ h => h) (Or.inl ⟨by rfl, ?_⟩) ?_ ?_
        rotate_left
        · intro w'
          go_simp
          with_reducible rfl
        rotate_left
        · simp only [Act.put, List.setIfInBounds_toArray, List.set_cons_zero, List.set_cons_succ, i64_w, i32_w]
          rfl
        refine pure_ (i := 5) (N := some 42) (v := ?_) (a' := ?_) #[true,true,true,true,false,true,false,false,false,false,false] rfl rfl (by kernel_rfl) (fun _ _ _ h => h) (Or.inl ⟨by rfl, ?_⟩) ?_ ?_
        rotate_left
        · intro w'
          go_simp
          with_reducible rfl
        rotate_left
        · simp only [Act.put, List.setIfInBounds_toArray, List.set_cons_zero, List.set_cons_succ, i64_w, i32_w]
          rfl
        refine take_ (i := 4) (N := some 41) (v := ?_) (a' := ?_) #[true,true,true,true,true,true,false,false,false,false,false] rfl rfl (by kernel_rfl) (fun _ _ _ h => h) (Or.inl ⟨by rfl, ?_⟩) hHeld ?_ ?_
        rotate_left
        · rintro w' ⟨s0, s1⟩
          go_simp
          with_reducible rfl
        rotate_left
        · simp only [Act.put, List.setIfInBounds_toArray, List.set_cons_zero, List.set_cons_succ, i64_w, i32_w]
          rfl
        refine take_ (i := 6) (N := some 43) (v := ?_) (a' := ?_) #[true,true,true,true,true,true,true,false,false,false,false] rfl rfl (by kernel_rfl) (fun _ _ _ h => h) (Or.inl ⟨by rfl, ?_⟩) hHeld ?_ ?_
        rotate_left
        · rintro w' ⟨s0, s1⟩
          go_simp
          with_reducible rfl
        rotate_left
        · simp only [Act.put, List.setIfInBounds_toArray, List.set_cons_zero, List.set_cons_succ, i64_w, i32_w]
          rfl
        refine last_ (i := 7) (N := some 44) #[true,true,true,true,true,true,true,true,false,false,false] rfl rfl (by kernel_rfl) (by decide) (fun K hK => ?_)
        refine Kd.R_append_rows_step k53 (w0 := W.drew) w1.heap.size (by rfl) (.tmp 41) (.tmp 43) 26 53 (.agg #[(.int .i64 0), (.int .i64 0), (.int .i64 0), (.string ⟨#[]⟩)]) 40 rfl Try.underlying26 info53 rfl (by decide) (by omega) _ z.f4 (trace_ticks.rep l0 x.val a1).f6 (A x.val) _ _ (fun _ => True) (fun _ => False) rfl rfl (Kd.R_drew H4.out) (Kd.C_drew HC.out) (fun x cs h => by rw [k53_open h]; exact k53_mkM _ _ _ x) (fun _ h => h.elim) (fun _ _ => trivial) (Below.refl _ _) HZ.out HLZ.out ?_
        intro v1 w4 ho hb4 hg4 hat4
        obtain ⟨A1_, c1_, rfl⟩ := Kd.R_slice ho
        obtain ⟨hcl4, hfz4⟩ := kx_cell (kx_over (Kd.R_drew H3.out) hg4 hat4)
        refine hK.out _ _ ?_
        clear hK K
        refine norm_ (a' := ?_) ?_ ?_
        rotate_left
        · show Act.put _ (some 44) _ = _
          simp only [Act.put, List.setIfInBounds_toArray, List.set_cons_zero, List.set_cons_succ, i64_w, i32_w]
          rfl
        refine pure_ (i := 8) (N := some 45) (v := ?_) (a' := ?_) #[true,true,true,true,true,true,true,true,true,false,false] rfl rfl (by kernel_rfl) (fun _ _ _ h => h) (Or.inl ⟨by rfl, ?_⟩) ?_ ?_
        rotate_left
        · intro w'
          go_simp
          with_reducible rfl
        rotate_left
        · simp only [Act.put, List.setIfInBounds_toArray, List.set_cons_zero, List.set_cons_succ, i64_w, i32_w]
          rfl
        refine pure_ (i := 9) (N := some 46) (v := ?_) (a' := ?_) #[true,true,true,true,true,true,true,true,true,true,false] rfl rfl (by kernel_rfl) (fun _ _ _ h => h) (Or.inl ⟨by rfl, ?_⟩) ?_ ?_
        rotate_left
        · intro w'
          go_simp
          with_reducible rfl
        rotate_left
        · simp only [Act.put, List.setIfInBounds_toArray, List.set_cons_zero, List.set_cons_succ, i64_w, i32_w]
          rfl
        refine last_ (i := 10) (N := none) #[true,true,true,true,true,true,true,true,true,true,true] rfl rfl (by kernel_rfl) (by decide) (fun K hK => ?_)
        refine skip_ (w1 := ?_) (by rfl) rfl ?_ ?_
        rotate_left
        · go_simp
          rfl
        refine hK.out _ _ ?_
        clear hK K
        refine done_ (by kernel_rfl) ?_
        simp only [List.length_append] at ho hat4
        obtain ⟨e1, e2, e3, e4, e5⟩ := kx_end (b := w.heap.size) (Kd.R_drew H3.out) (Kd.R_drew H4.out) (Ytmdnmofcgmmfbaa.Round.boxed_drew HBX.out) (by have := HS.out; omega) HZ.out hg4 hat4 ho
        have hs9 := HS.out
        refine ⟨((KeepsOthers.drew W).trans e2).from _, ⟨fun k hk => e3 k (by omega), e3 _ (by omega), e3 _ (by omega), e3 _ (by omega), e3 _ (by omega)⟩, ⟨?_, HB2.out.trans ((below_drew1 (Below.refl _ _)).trans (e4 _ (by omega))), Nat.le_trans HZ.out e5⟩⟩
        rw [trace_Cycles.cs_snoc, HL.out, trace_Cycles.step_last _ _ _ _ HP.out]
        exact e1
    · rw [hp] at hg0
      have hall : ∃ vv f, Boxed W w.heap.size 37 vv ∧ (Kd.tag f kx).R 40 W w1.heap.size (fun _ => True) vv (dn (trace_Cycles.cs l0 a1 pre)).zipIdx := by
        rcases hCB with ⟨hL, hbx⟩ | ⟨L0, z, g2, cap, v, f, hL, hbx, h3, h4⟩
        · rw [hL]
          exact ⟨_, fun _ => 0, hbx, Kd.R_nil _ _ _ _ _⟩
        · rw [hL]
          obtain ⟨f', hf'⟩ := kx_close h3 h4
          exact ⟨_, f', hbx, hf'⟩
      clear hCB
      obtain ⟨L0, hL⟩ : ∃ L0, trace_Cycles.cs l0 a1 pre = L0 := ⟨_, rfl⟩
      rw [hL] at hall
      obtain ⟨vv, f, hbx, hR⟩ := hall
      obtain ⟨AA, cc, e0⟩ := Kd.R_slice hR
      rw [dn_zip] at e0
      subst e0
      have hva := hbx.cell
      have HBX := Sd.mk hbx
      have HL := Sd.mk hL
      have HP := Sd.mk hp
      have HR := Sd.mk hR
      have hll : L0.length < 1000000 := by
        have h1 := HCL.out.1
        have h2 := HLN.out.2
        rw [HL.out] at h1
        omega
      have HLD : Sd (((dn L0).zipIdx.length + 1) * 64 ≤ 140737488355328) := ⟨by rw [dn_zip]; omega⟩
      have HZB : Sd (w.heap.size < w1.heap.size) := ⟨by have := HS.out; omega⟩
      have HLEN : Sd (((dn L0).zipIdx ++ [(((⟨(x.val : Int), (trace_ticks.rep l0 x.val a1).f2, (trace_ticks.rep l0 x.val a1).f4, (trace_ticks.rep l0 x.val a1).f1, []⟩ : S40), some (Value.slice none 0 0)), L0.length)]).length = L0.length + 1) := ⟨by rw [List.length_append, dn_zip]; rfl⟩
      have hg6n : some g ≠ (Value.slice AA L0.length cc).ownBlock := Kd.R_ne HR.out HG.out (by decide)
      have HGN := Sd.mk hg6n
      have t1 : decide (0 < (L0.length : Int) + 1) = true := decide_eq_true (by omega)
      have t2 : 0 ≤ (L0.length : Int) := by omega
      have t3 : (L0.length : Int) < (L0.length : Int) + 1 := by omega
      have t4 : wrap64 (L0.length : Int) = (L0.length : Int) := by simp only [wrap64]; omega
      clear hbx hL hp hR hg6n
      gi_wp2_with (gi_at_builtin; refine Ytmdnmofcgmmfbaa.Round.R_append_in (Kd.tag f kx) (W := W) w1.heap.size rfl (.tmp 18) (.tmp 27) 37 40 (.agg #[(.int .i64 0), (.int .i64 0), (.string ⟨#[]⟩), (.bool false), (.slice none 0 0)]) 64 rfl Try.underlying37 info40 rfl (by show 0 < 5; omega) (by omega) _ (dn L0).zipIdx (((⟨(x.val : Int), (trace_ticks.rep l0 x.val a1).f2, (trace_ticks.rep l0 x.val a1).f4, (trace_ticks.rep l0 x.val a1).f1, []⟩ : S40), some (.slice none 0 0)), L0.length) [.int .i64 (x.val : Int), .int .i64 (trace_ticks.rep l0 x.val a1).f2, .string (trace_ticks.rep l0 x.val a1).f4, .bool (trace_ticks.rep l0 x.val a1).f1, .slice none 0 0] (fun _ => True) (fun _ => False) rfl rfl ⟨rfl, rfl⟩ (fun _ h => h.elim) (fun _ _ => trivial) HR.out HZ.out HLD.out ?_; intro v1 w4 ho hg hat; obtain ⟨g2, cap, e1, _⟩ := Kd.R_form ho (by simp); rw [HLEN.out] at e1; subst e1; obtain ⟨hv1, hv2, hk2, hs2, hbl2, hz2⟩ := Ytmdnmofcgmmfbaa.Round.putR HBX.out HZB.out HZ.out HR.out ho hg; have hc1 := hv1.cell; have hf1 := hv1.frozen; have HO := Sd.mk hv2; have HGR := Sd.mk hg; have HK2 := Sd.mk hk2; have HS2 := Sd.mk hs2; have HBL2 := Sd.mk hbl2; have HZ2 := Sd.mk hz2; clear ho hg hat hv2 hk2 hs2 hbl2 hz2)
      clear t4 hva hg0 hg1 hg2 hg4 hg6 hc1 hf1
      have hbx5 := hv1.set (.slice (some ⟨g2, 0, none⟩) (L0.length + 1) cap)
      obtain ⟨vv, hbv, hR5⟩ := HO.out
      obtain rfl : vv = .slice (some ⟨g2, 0, none⟩) (L0.length + 1) cap := by
        have h1 := hbv.cell
        have h2 := hbx5.cell
        rw [h1] at h2
        exact Option.some.inj h2
      have hgk : (w4.setCell ⟨w.heap.size, 0, none⟩ (.slice (some ⟨g2, 0, none⟩) (L0.length + 1) cap)).heap[g]? = W.heap[g]? := (Below.heap_setCell _ _ _ g (by have := HGZ.out; have := HZB.out; show g ≠ w.heap.size; omega)).trans (HGR.out.block g hgl HGN.out)
      have hg6 : (w4.setCell ⟨w.heap.size, 0, none⟩ (.slice (some ⟨g2, 0, none⟩) (L0.length + 1) cap)).cell? ⟨g, 6, none⟩ = some (.slice (A x.val) (trace_ticks.rep l0 x.val a1).f6.length (c x.val)) := (blk_cell (hgk.trans HG.out) 6).trans rfl
      have HB5 := Sd.mk (HB2.out.trans (HBL2.out _ (Nat.le_refl _)))
      have HC5 := Sd.mk (Kd.C_below (HALL.out x.val x.isLt).2.1 HB5.out)
      have HZ5 := Sd.mk (Nat.le_trans HZ.out HZ2.out)
      have hst : ∃ (z : S40) (A4 : Option Addr) (c4 : Nat), z = (⟨(x.val : Int), (trace_ticks.rep l0 x.val a1).f2, (trace_ticks.rep l0 x.val a1).f4, (trace_ticks.rep l0 x.val a1).f1, []⟩ : S40) ∧ (Kd.tag f kx).R 40 (w4.setCell ⟨w.heap.size, 0, none⟩ (.slice (some ⟨g2, 0, none⟩) (L0.length + 1) cap)) w1.heap.size (fun k => some k ≠ (Value.slice A4 z.f4.length c4).ownBlock) (.slice (some ⟨g2, 0, none⟩) (L0.length + 1) cap) (zl L0 z (.slice A4 z.f4.length c4)) ∧ k53.R 53 (w4.setCell ⟨w.heap.size, 0, none⟩ (.slice (some ⟨g2, 0, none⟩) (L0.length + 1) cap)) w1.heap.size (fun _ => True) (.slice A4 z.f4.length c4) z.f4 :=
        ⟨(⟨(x.val : Int), (trace_ticks.rep l0 x.val a1).f2, (trace_ticks.rep l0 x.val a1).f4, (trace_ticks.rep l0 x.val a1).f1, []⟩ : S40), none, 0, rfl, Kd.R_mono hR5 (fun k _ => by simp [Value.ownBlock]), Kd.R_nil _ _ _ _ _⟩
      obtain ⟨z, A4, c4, hz, h3, h4⟩ := hst
      have HZZ := Sd.mk hz
      have H3 := Sd.mk h3
      have H4 := Sd.mk h4
      have hbx5 := Sd.mk hbx5
      clear h3 h4 hz hR5 hbv HO hv1 hgk HBL2
      generalize w4.setCell ⟨w.heap.size, 0, none⟩ (.slice (some ⟨g2, 0, none⟩) (L0.length + 1) cap) = w5 at hg6 HB5 HC5 HZ5 H3 H4 hbx5 HK2 HS2 HZ2 ⊢
      have hc4 := (kx_cell H3.out).1
      have HLZ : Sd ((z.f4.length + (trace_ticks.rep l0 x.val a1).f6.length) * 40 ≤ 140737488355328) := ⟨by
        have h2 := HLN.out.1
        have h3 : z.f4.length = 0 := by rw [HZZ.out]; rfl
        omega⟩
      rename_i w4o_
      clear HGR
      refine Ytmdnmofcgmmfbaa.Round.start_in (m := 11) (S := fun w' => w'.cell? ⟨g2, L0.length * 5 + 4, none⟩ = some (.slice A4 z.f4.length c4) ∧ w'.cell? ⟨g, 6, none⟩ = some (.slice (A x.val) (trace_ticks.rep l0 x.val a1).f6.length (c x.val))) (ds := [7, 10]) #[false,false,false,false,false,false,false,false,false,false,false] (by kernel_rfl) (by rintro ⟨_, _, q⟩; exact q) (by kernel_rfl) rfl rfl ⟨hc4, hg6⟩ (fun hHeld => ?_)
      refine pure_ (i := 0) (N := some 37) (v := ?_) (a' := ?_) #[true,false,false,false,false,false,false,false,false,false,false] rfl rfl (by kernel_rfl) (fun _ _ _ h => h) (Or.inl ⟨by rfl, ?_⟩) ?_ ?_
      rotate_left
      · intro w'
        go_simp
        with_reducible rfl
      rotate_left
      · simp only [Act.put, List.setIfInBounds_toArray, List.set_cons_zero, List.set_cons_succ, i64_w, i32_w]
        rfl
      refine pure_ (i := 1) (N := some 38) (v := ?_) (a' := ?_) #[true,true,false,false,false,false,false,false,false,false,false] rfl rfl (by kernel_rfl) (fun _ _ _ h => h) (Or.inl ⟨by rfl, ?_⟩) ?_ ?_
      rotate_left
      · intro w'
        go_simp
        with_reducible rfl
      rotate_left
      · simp only [Act.put, List.setIfInBounds_toArray, List.set_cons_zero, List.set_cons_succ, i64_w, i32_w]
        rfl
      refine pure_ (i := 2) (N := some 39) (v := ?_) (a' := ?_) #[true,true,true,false,false,false,false,false,false,false,false] rfl rfl (by kernel_rfl) (fun _ _ _ h => h) (Or.inl ⟨by rfl, ?_⟩) ?_ ?_
      rotate_left
      · intro w'
        go_simp
        with_reducible rfl
      rotate_left
      · simp only [Act.put, List.setIfInBounds_toArray, List.set_cons_zero, List.set_cons_succ, i64_w, i32_w]
        rfl
      refine pure_ (i := 3) (N := some 40) (v := ?_) (a' := ?_) #[true,true,true,true,false,false,false,false,false,false,false] rfl rfl (by kernel_rfl) (fun _ _ _ h => h) (Or.inl ⟨by rfl, ?_⟩) ?_ ?_
      rotate_left
      · intro w'
        go_simp
        with_reducible rfl
      rotate_left
      · simp only [Act.put, List.setIfInBounds_toArray, List.set_cons_zero, List.set_cons_succ, i64_w, i32_w]
        rfl
      refine pure_ (i := 5) (N := some 42) (v := ?_) (a' := ?_) #[true,true,true,true,false,true,false,false,false,false,false] rfl rfl (by kernel_rfl) (fun _ _ _ h => h) (Or.inl ⟨by rfl, ?_⟩) ?_ ?_
      rotate_left
      · intro w'
        go_simp
        with_reducible rfl
      rotate_left
      · simp only [Act.put, List.setIfInBounds_toArray, List.set_cons_zero, List.set_cons_succ, i64_w, i32_w]
        rfl
      refine take_ (i := 4) (N := some 41) (v := ?_) (a' := ?_) #[true,true,true,true,true,true,false,false,false,false,false] rfl rfl (by kernel_rfl) (fun _ _ _ h => h) (Or.inl ⟨by rfl, ?_⟩) hHeld ?_ ?_
      rotate_left
      · rintro w' ⟨s0, s1⟩
        go_simp
        with_reducible rfl
      rotate_left
      · simp only [Act.put, List.setIfInBounds_toArray, List.set_cons_zero, List.set_cons_succ, i64_w, i32_w]
        rfl
      refine take_ (i := 6) (N := some 43) (v := ?_) (a' := ?_) #[true,true,true,true,true,true,true,false,false,false,false] rfl rfl (by kernel_rfl) (fun _ _ _ h => h) (Or.inl ⟨by rfl, ?_⟩) hHeld ?_ ?_
      rotate_left
      · rintro w' ⟨s0, s1⟩
        go_simp
        with_reducible rfl
      rotate_left
      · simp only [Act.put, List.setIfInBounds_toArray, List.set_cons_zero, List.set_cons_succ, i64_w, i32_w]
        rfl
      refine last_ (i := 7) (N := some 44) #[true,true,true,true,true,true,true,true,false,false,false] rfl rfl (by kernel_rfl) (by decide) (fun K hK => ?_)
      refine Kd.R_append_rows_step k53 (w0 := w5.drew) w1.heap.size (by rfl) (.tmp 41) (.tmp 43) 26 53 (.agg #[(.int .i64 0), (.int .i64 0), (.int .i64 0), (.string ⟨#[]⟩)]) 40 rfl Try.underlying26 info53 rfl (by decide) (by omega) _ z.f4 (trace_ticks.rep l0 x.val a1).f6 (A x.val) _ _ (fun _ => True) (fun _ => False) rfl rfl (Kd.R_drew H4.out) (Kd.C_drew HC5.out) (fun x cs h => by rw [k53_open h]; exact k53_mkM _ _ _ x) (fun _ h => h.elim) (fun _ _ => trivial) (Below.refl _ _) HZ5.out HLZ.out ?_
      intro v1 w6 ho hb4 hg4 hat4
      obtain ⟨A1_, c1_, rfl⟩ := Kd.R_slice ho
      obtain ⟨hcl4, hfz4⟩ := kx_cell (kx_over (Kd.R_drew H3.out) hg4 hat4)
      refine hK.out _ _ ?_
      clear hK K
      refine norm_ (a' := ?_) ?_ ?_
      rotate_left
      · show Act.put _ (some 44) _ = _
        simp only [Act.put, List.setIfInBounds_toArray, List.set_cons_zero, List.set_cons_succ, i64_w, i32_w]
        rfl
      refine pure_ (i := 8) (N := some 45) (v := ?_) (a' := ?_) #[true,true,true,true,true,true,true,true,true,false,false] rfl rfl (by kernel_rfl) (fun _ _ _ h => h) (Or.inl ⟨by rfl, ?_⟩) ?_ ?_
      rotate_left
      · intro w'
        go_simp
        with_reducible rfl
      rotate_left
      · simp only [Act.put, List.setIfInBounds_toArray, List.set_cons_zero, List.set_cons_succ, i64_w, i32_w]
        rfl
      refine pure_ (i := 9) (N := some 46) (v := ?_) (a' := ?_) #[true,true,true,true,true,true,true,true,true,true,false] rfl rfl (by kernel_rfl) (fun _ _ _ h => h) (Or.inl ⟨by rfl, ?_⟩) ?_ ?_
      rotate_left
      · intro w'
        go_simp
        with_reducible rfl
      rotate_left
      · simp only [Act.put, List.setIfInBounds_toArray, List.set_cons_zero, List.set_cons_succ, i64_w, i32_w]
        rfl
      refine last_ (i := 10) (N := none) #[true,true,true,true,true,true,true,true,true,true,true] rfl rfl (by kernel_rfl) (by decide) (fun K hK => ?_)
      refine skip_ (w1 := ?_) (by rfl) rfl ?_ ?_
      rotate_left
      · go_simp
        rfl
      refine hK.out _ _ ?_
      clear hK K
      refine done_ (by kernel_rfl) ?_
      simp only [List.length_append] at ho hat4
      obtain ⟨e1, e2, e3, e4, e5⟩ := kx_end (b := w.heap.size) (Kd.R_drew H3.out) (Kd.R_drew H4.out) (Ytmdnmofcgmmfbaa.Round.boxed_drew hbx5.out) HZB.out HZ5.out hg4 hat4 ho
      have hs9 := HS.out
      have hk9 : ∀ k, k < w1.heap.size → k ≠ w.heap.size → _ = W.heap[k]? := fun k h1 h2 => (e3 k h1).trans (HS2.out k h1 h2)
      refine ⟨(HK2.out.trans ((KeepsOthers.drew w5).trans e2)).from _, ⟨fun k hk => hk9 k (by omega) (by omega), hk9 _ (by omega) (by omega), hk9 _ (by omega) (by omega), hk9 _ (by omega) (by omega), hk9 _ (by omega) (by omega)⟩, ⟨?_, HB5.out.trans ((below_drew1 (Below.refl _ _)).trans (e4 _ (by omega))), Nat.le_trans HZ5.out e5⟩⟩
      rw [trace_Cycles.cs_snoc, HL.out]
      have e6 : trace_Cycles.step L0 (x.val : Int) (trace_ticks.rep l0 x.val a1) = L0 ++ [⟨z.f0, z.f1, z.f2, z.f3, z.f4 ++ (trace_ticks.rep l0 x.val a1).f6⟩] := by
        unfold trace_Cycles.step
        rw [if_pos HP.out, HZZ.out]
        rfl
      rw [e6]
      exact e1
  case done =>
    rintro D ys W hD hys ⟨hCB, hB, hz⟩ hK
    have hp : trace_Cycles.cs l0 a1 ys = trace_Cycles.cyc l0 a1 (List.range l0.length) := by
      unfold trace_Cycles.cs
      rw [hys, Nat.sub_zero]
      congr 1
      simp
    have hall : ∃ vv, Boxed W w.heap.size 37 vv ∧ k40.S 40 W w1.heap.size (fun _ => True) vv (trace_Cycles.cyc l0 a1 (List.range l0.length)) := by
      rw [hp] at hCB
      rcases hCB with ⟨hL, hbx⟩ | ⟨L0, z, g2, cap, v, f, hL, hbx, h3, h4⟩
      · rw [hL]
        exact ⟨_, hbx, Kd.S_nil _ _ _ _ _⟩
      · rw [hL]
        obtain ⟨f', hf'⟩ := kx_close h3 h4
        exact ⟨_, hbx, kx_all hf'⟩
    clear hCB
    obtain ⟨vv, hv, hrow⟩ := hall
    have hva := hv.cell
    have HD9 := Sd.mk hD
    have HK9 := Sd.mk hK
    have HROW := Sd.mk hrow
    clear hD hK hys hrow hp
    go_wp2
    refine ⟨by simp, .inl ⟨_, _, rfl, run_takeDeferred HK9.out, ?_⟩⟩
    exact ⟨_, results_tmp rfl _ _ _, _, rfl, Kd.S_lower (s_own HROW.out (grownBy_putObj' W D (.deferred none)) (fun r e => by cases e; exact ⟨HD9.out, _, HK9.out, rfl⟩)) HBW.out.size, hB.trans (belowK_b (w := w) (Nat.le_refl _) W D _ _ (Nat.le_trans HBW.out.size HD9.out) HK9.out rfl rfl)⟩
end Go.Proofs.Ytmdnmofcgmmfbaa.T
