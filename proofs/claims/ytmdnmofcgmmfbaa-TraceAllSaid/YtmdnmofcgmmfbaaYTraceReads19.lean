import Derived.RangeFuncNested
import Derived.RangeFuncBound
import Derived.RangeFuncCalls
import Derived.RangeFuncLeaves
import Derived.Shelf.Abstract
import Derived.Shelf.RegionOpen
import Derived.WalkKit
import Derived.OwnWalkIn
import Derived.TacticsInMore
import Derived.LoopNIn
import Derived.LoopIn
import Derived.Maps.AppendAt
import Derived.Test.YtmdnmofcgmmfbaaYTraceReads17
import Derived.Test.YtmdnmofcgmmfbaaYTraceReads18
namespace Go.Proofs.Ytmdnmofcgmmfbaa.T
open Go.RowKit Go.Proofs.YtmdnmofcgmmfbaaW.PrintWords Go.Proofs.YtmdnmofcgmmfbaaW.PrintLast Go.Proofs.YtmdnmofcgmmfbaaW.PrintMore
attribute [local go_sem] max2_int min2_int max_two min_two max_three min_three max_four min_four   -- for this text's walks alone
set_option linter.unusedVariables false
set_option linter.unusedSimpArgs false
open Go
attribute [local go_sem] Oper.semAt_some
set_option maxHeartbeats 400000
set_option maxRecDepth 100000
def trace_when.picks (P : S28 → Bool) (l0 : List (List S28)) (node : Int) (n : Nat) : List Int := ((List.range n).filter (fun x => P (trace_ticks.rep l0 x node))).map (fun (x : Nat) => (x : Int))
theorem trace_ticks.Kp.book {B b1 b2 b3 b4 : Nat} {w : World} (hB : B ≤ w.heap.size) (h1 : b1 < w.heap.size) (h2 : b2 < w.heap.size) (h3 : b3 < w.heap.size) (h4 : b4 < w.heap.size) (W : World) (l : Nat) (o o' : Obj) (hl : w.heap.size ≤ l) (_ : W.heap[l]? = some o) (_ : o.isCells = false) (_ : o.isWalk = false) : trace_ticks.Kp B b1 b2 b3 b4 W (W.putObj l o') :=
  ⟨fun k hk => World.putObj_heap_other (by omega), World.putObj_heap_other (by omega), World.putObj_heap_other (by omega), World.putObj_heap_other (by omega), World.putObj_heap_other (by omega)⟩
def trace_when.ps (P : S28 → Bool) (l0 : List (List S28)) (node : Int) (pre : List (Fin l0.length)) : List Int := (pre.filter (fun x => P (trace_ticks.rep l0 x.val node))).map (fun x => (x.val : Int))
theorem trace_when.own_lower {W : World} {b B e size n : Nat} {v : Value} {xs : List Value} (h : W.ownsRow B e size v n xs) (hb : b ≤ B) : W.ownsRow b e size v n xs := by
  obtain ⟨h1, h2⟩ := h
  refine ⟨h1, ?_⟩
  rcases h2 with h2 | ⟨g, cap, cur, h3, h4, h5⟩
  · exact .inl h2
  · exact .inr ⟨g, cap, cur, h3, Nat.le_trans hb h4, h5⟩
def trace_when.I (h : Nat) (P : S28 → Bool) (l0 : List (List S28)) (node : Int) (w w1 : World) (pre : List (Fin l0.length)) (W : World) : Prop := (∃ vv, Boxed W (w.heap.size + 1) 31 vv ∧ W.ownsRow w1.heap.size 3 1 vv (trace_when.ps P l0 node pre).length ((trace_when.ps P l0 node pre).map (Value.int .i64)) ∧ True) ∧ (Boxed W w.heap.size 55 (.func (.func h) #[] #[]) ∧ Below w.heap.size w W ∧ w1.heap.size ≤ W.heap.size)
theorem trace_when.I_own {h : Nat} {P : S28 → Bool} {l0 : List (List S28)} {node : Int} {w w1 : World} (hz : w.heap.size ≤ w1.heap.size) : OwnFrom w1.heap.size (trace_when.I h P l0 node w w1) :=
(OwnFrom.and (Own.from (holdsRow_own w1.heap.size (w.heap.size + 1) 31 3 1 (fun pre : List (Fin l0.length) => (trace_when.ps P l0 node pre).length) (fun pre => (trace_when.ps P l0 node pre).map (Value.int .i64)) (fun _ _ => True)) _) (OwnFrom.and (Own.from (boxed_own w.heap.size 55 (fun _ => .func (.func h) #[] #[])) _) (OwnFrom.and (ownFrom_below (Nat.le_refl _) hz) (Ytmdnmofcgmmfbaa.Round.ownFrom_size _ _))))
theorem trace_when.calls (h : Nat) (P : S28 → Bool) (hE : ∀ args w, (callFunc h args).run Try.prog w = .ok (.enter h args) w) (hP : ∀ (r : S28) (A : Option Addr) (c : Nat) (w : World), Calls Try.prog h #[trace_ticks.val r A c] w fun e w' => e = .returned (.bool (P r)) ∧ Below w.heap.size w w')
    (A0 : Option Addr) (c0 : Nat) (l0 : List (List S28)) (node : Int) (w : World) (hr0 : Kd.C (Kd.slice 28 k28) w A0 l0.length l0) (hlen : l0.length ≤ 1000000) :
    Calls Try.prog 35 #[.slice A0 l0.length c0, .int .i64 node, .func (.func h) #[] #[]] w fun e w' => ∃ v, e = .returned v ∧ w'.ownsRow w.heap.size 3 1 v (trace_when.picks P l0 node l0.length).length ((trace_when.picks P l0 node l0.length).map (Value.int .i64)) ∧ Below w.heap.size w w' := by
  obtain ⟨A, c, hall⟩ := trace_ticks.all w A0 c0 l0 node hr0
  have HALL := Sd.mk hall
  have HR := Sd.mk hr0
  clear hall hr0
  refine (callsIn_wide (n := 3)).1 (callsIn_of_wp_marks Try.func35 rfl trivial (wpIn_wide.2 ?_) rfl)
  simp only [Try.ntmps35, List.size_toArray, List.length_cons, List.length_nil, Nat.reduceAdd, Nat.reduceSub, Array.replicate_succ, Array.replicate_zero, List.push_toArray, List.append_toArray, List.nil_append, List.cons_append]
  have hnf : ∀ (l : Array Value) (w : World), (binOp .eql 57 (.func (.func 46) #[] l) .nilFunc).run Try.prog w = .ok (.bool false) w := fun _ _ => rfl
  go_wp2_with (first | (go_at_call 38; (with_reducible refine (trace_ticks.calls A0 c0 l0.length node 0 (l0.length : Int) _).mono ?_); rintro e' w1 ⟨rfl, hs, q1, q2, q3, q4, hb⟩; have HS := Sd.mk hs; have Q1 := Sd.mk q1; have Q2 := Sd.mk q2; have Q3 := Sd.mk q3; have Q4 := Sd.mk q4; have HB1 := Sd.mk hb; have KH := Sd.mk (blk_below (blk_alloc (blk_new w (.cells #[.func (.func h) #[] #[]] 55)) (.cells #[.slice none 0 0] 31)) hb); have KO := Sd.mk (blk_below (blk_new (w.alloc (.cells #[.func (.func h) #[] #[]] 55)) (.cells #[.slice none 0 0] 31)) hb); clear hs q1 q2 q3 q4 hb))
  simp only [World.size_alloc] at HS Q1 Q2 Q3 Q4 HB1 KH KO ⊢
  have HBW : Sd (Below w.heap.size w w1) := ⟨(below_alloc (below_alloc (Below.refl _ w) _) _).trans (HB1.out.mono (by omega))⟩
  refine (wpIn_wide (n := 3)).1 ?_
  refine wpIn_rangeFunc_ownH (F := Fence.wide) rfl (by decide : 1 ≤ 3) (gf := 46) (lb := #[.pointer (some ⟨w.heap.size + 1 + 1 + 2, 0, none⟩), .pointer (some ⟨w.heap.size + 1 + 1 + 3, 0, none⟩), .pointer (some ⟨w.heap.size + 1 + 1, 0, none⟩), .pointer (some ⟨w.heap.size + 1 + 1 + 1, 0, none⟩)]) rfl trivial (enters_of Try.func46 (by kernel_rfl) rfl)
    (trace_ticks.stops 2 (by decide) _ _ _ _ w A0 c0 l0 node 0 (l0.length : Int) 0 l0.length rfl (by omega) A c hlen (fun x hx => (HALL.out x hx).2.2) w1 (fun k hk => HBW.out.block k hk) Q1.out Q2.out Q3.out Q4.out) trace_ticks.Kp.trans (trace_ticks.Kp.book (by have := HS.out; omega) (by have := HS.out; omega) (by have := HS.out; omega) (by have := HS.out; omega) (by have := HS.out; omega)) (Below.refl _ _) (fun _ => rfl)
    (trace_when.I h P l0 node w w1)
    (fun _ _ _ => False)
    (trace_when.I_own HBW.out.size)
    (fun _ _ _ _ _ hs _ _ => hs)
    ⟨⟨_, KO.out, World.ownsRow_nil _ _ _ _, trivial⟩, KH.out, HBW.out, Nat.le_refl _⟩
    (fun x a' W => ∃ g, w1.heap.size ≤ g ∧ W.heap[g]? = some (.cells #[.bool (trace_ticks.rep l0 x.val node).f0, .bool (trace_ticks.rep l0 x.val node).f1, .int .i64 (trace_ticks.rep l0 x.val node).f2, .int .i64 (trace_ticks.rep l0 x.val node).f3, .string (trace_ticks.rep l0 x.val node).f4, .int .i64 (trace_ticks.rep l0 x.val node).f5, .slice (A x.val) (trace_ticks.rep l0 x.val node).f6.length (c x.val)] 28 (0, 0)) ∧ a' = ⟨#[.slice A0 l0.length c0, .int .i64 node, .func (.func h) #[] #[], undef, undef, .pointer (some ⟨w.heap.size, 0, none⟩), .slice none 0 0, .pointer (some ⟨w.heap.size + 1, 0, none⟩), .int .i64 (x.val : Int), .pointer (some ⟨g, 0, none⟩), .slice A0 l0.length c0, .int .i64 node, .slice A0 l0.length c0, .int .i64 (l0.length : Int), .func (.func 46) #[] #[.pointer (some ⟨w.heap.size + 1 + 1 + 2, 0, none⟩), .pointer (some ⟨w.heap.size + 1 + 1 + 3, 0, none⟩), .pointer (some ⟨w.heap.size + 1 + 1, 0, none⟩), .pointer (some ⟨w.heap.size + 1 + 1 + 1, 0, none⟩)], .int .i64 (x.val : Int), .agg #[.bool (trace_ticks.rep l0 x.val node).f0, .bool (trace_ticks.rep l0 x.val node).f1, .int .i64 (trace_ticks.rep l0 x.val node).f2, .int .i64 (trace_ticks.rep l0 x.val node).f3, .string (trace_ticks.rep l0 x.val node).f4, .int .i64 (trace_ticks.rep l0 x.val node).f5, .slice (A x.val) (trace_ticks.rep l0 x.val node).f6.length (c x.val)], undef, undef, undef, undef, undef, undef, undef, undef], []⟩)
    (fun x a' => ?hAx) ?assign ?body ?done ?stop
  case hAx =>
    rintro s X Y row ⟨g, h1, h2, h3⟩ hg hr
    refine ⟨g, h1, ?_, h3⟩
    exact Ytmdnmofcgmmfbaa.Round.blk_own (β := Unit) g _ rfl () X Y row h2 hg (fun r e => (hr r e).2)
  case stop => exact fun D cc pre W _ _ hs => hs.elim
  case done =>
    rintro D ys W hD hys hI hK
    have hp : trace_when.ps P l0 node ys = trace_when.picks P l0 node l0.length := by
      have e : ys.map Fin.val = List.range l0.length := by rw [hys, Nat.sub_zero]; simp
      unfold trace_when.ps trace_when.picks
      rw [← e, List.filter_map, List.map_map]
      rfl
    obtain ⟨⟨vv, hv, hrow, -⟩, hbv, hB, hz⟩ := hI
    have hva := hv.cell
    have HD9 := Sd.mk hD
    have HK9 := Sd.mk hK
    rw [hp] at hrow
    have HROW := Sd.mk hrow
    clear hD hK hys hrow
    go_wp2
    refine ⟨by simp, .inl ⟨_, _, rfl, run_takeDeferred HK9.out, ?_⟩⟩
    exact ⟨_, results_tmp rfl _ _ _, _, rfl, trace_when.own_lower (ownsRow_putObj HROW.out (.deferred none) HK9.out rfl) HBW.out.size, hB.trans (belowK_b (w := w) (Nat.le_refl _) W D _ _ (Nat.le_trans HBW.out.size HD9.out) HK9.out rfl rfl)⟩
  case assign =>
    intro l pre x W K hI hK
    have hu28 := Try.underlying28
    have hz : w1.heap.size ≤ W.heap.size := hI.2.2.2
    have HS9 := HS.out
    have HII := Sd.mk hI
    have HZ := Sd.mk hz
    clear hI hz HS9
    unfold trace_ticks.val
    gi_wp2
    exact hK _ _ ((KeepsOthers.alloc _ _).from _) (by
      have h1 := HS.out
      have h2 := HZ.out
      exact trace_ticks.Kp.below (below_alloc (Below.refl _ W) _) (by omega) (by omega) (by omega) (by omega) (by omega)) ((trace_when.I_own HBW.out.size).alloc _ HII.out) ⟨W.heap.size, HZ.out, blk_new W _, rfl⟩
  case body =>
    rintro l pre x a' W hl ⟨rr, hrr⟩ hI ⟨g, hgz, hgb, rfl⟩ hlt
    obtain ⟨⟨vv, hv, hrow, -⟩, hbv, hB, hz⟩ := hI
    obtain ⟨AA, cc, rfl⟩ := Ytmdnmofcgmmfbaa.Round.own_slice hrow
    have hg0 : W.cell? ⟨g, 0, none⟩ = some (.bool (trace_ticks.rep l0 x.val node).f0) := (blk_cell hgb 0).trans rfl
    have hg1 : W.cell? ⟨g, 1, none⟩ = some (.bool (trace_ticks.rep l0 x.val node).f1) := (blk_cell hgb 1).trans rfl
    have hg2 : W.cell? ⟨g, 2, none⟩ = some (.int .i64 (trace_ticks.rep l0 x.val node).f2) := (blk_cell hgb 2).trans rfl
    have hg3 : W.cell? ⟨g, 3, none⟩ = some (.int .i64 (trace_ticks.rep l0 x.val node).f3) := (blk_cell hgb 3).trans rfl
    have hg4 : W.cell? ⟨g, 4, none⟩ = some (.string (trace_ticks.rep l0 x.val node).f4) := (blk_cell hgb 4).trans rfl
    have hg5 : W.cell? ⟨g, 5, none⟩ = some (.int .i64 (trace_ticks.rep l0 x.val node).f5) := (blk_cell hgb 5).trans rfl
    have hg6 : W.cell? ⟨g, 6, none⟩ = some (.slice (A x.val) (trace_ticks.rep l0 x.val node).f6.length (c x.val)) := (blk_cell hgb 6).trans rfl
    have hva := hv.cell
    have hvf := hv.frozen
    have hba := hbv.cell
    have HB2 := Sd.mk hB
    have HZ := Sd.mk hz
    have HG := Sd.mk hgb
    have HRW := Sd.mk hrow
    have HV := Sd.mk hv
    have HBV := Sd.mk hbv
    have HGZ := Sd.mk hgz
    have hu28 := Try.underlying28
    clear hgb hrow hv hbv hB hz hgz
    have HPP := Sd.mk hP
    clear hP
    gi_wp2
    refine ⟨trivial, Ytmdnmofcgmmfbaa.Round.calls_in ((HPP.out _ _ _ _).mono ?_)⟩
    rintro e w2 ⟨rfl, hb⟩
    have hlt0 : w.heap.size + 1 < W.heap.size := (Array.getElem?_eq_some_iff.1 HV.out).1
    have HV2 : Sd (Boxed w2 (w.heap.size + 1) 31 (.slice AA (trace_when.ps P l0 node pre).length cc)) := ⟨blk_below HV.out hb⟩
    have HRW2 : Sd (w2.ownsRow w1.heap.size 3 1 (.slice AA (trace_when.ps P l0 node pre).length cc) (trace_when.ps P l0 node pre).length ((trace_when.ps P l0 node pre).map (Value.int .i64))) := ⟨Ytmdnmofcgmmfbaa.Round.own_same HRW.out (fun g hg => hb.block g (by obtain ⟨cur, hc⟩ := Ytmdnmofcgmmfbaa.Round.own_typed HRW.out g hg; exact (Array.getElem?_eq_some_iff.1 hc).1))⟩
    have HB := Sd.mk hb
    have hva2 := HV2.out.cell
    have hvf2 := HV2.out.frozen
    clear hva hvf hba hg0 hg1 hg2 hg3 hg4 hg5 hg6 hb hlt0
    rcases hp : P (trace_ticks.rep l0 x.val node) with _ | _
    · have hps : trace_when.ps P l0 node (pre ++ [x]) = trace_when.ps P l0 node pre := by simp [trace_when.ps, hp]
      have HPS := Sd.mk hps
      clear hps
      gi_wp2
      have hk : ∀ k, k < W.heap.size → w2.heap[k]? = W.heap[k]? := fun k hk => HB.out.block k hk
      have h1 := HS.out
      have h2 := HZ.out
      have hzz := HB.out.size
      refine ⟨(show KeepsOthers W w2 from ⟨HB.out.size, fun k o hk _ => (HB.out.block k (Array.getElem?_eq_some_iff.1 hk).1).trans hk⟩).from _, trace_ticks.Kp.below HB.out (by omega) (by omega) (by omega) (by omega) (by omega), ⟨⟨_, HV2.out, by rw [HPS.out]; exact HRW2.out, trivial⟩, (hk _ (by omega)).trans HBV.out, HB2.out.trans (HB.out.mono HB2.out.size), by omega⟩⟩
    · have hps : trace_when.ps P l0 node (pre ++ [x]) = trace_when.ps P l0 node pre ++ [(x.val : Int)] := by simp [trace_when.ps, hp]
      have HPS := Sd.mk hps
      have hpl : (trace_when.ps P l0 node pre).length ≤ l0.length := by
        have h1 : (trace_when.ps P l0 node pre).length ≤ pre.length := by simp only [trace_when.ps, List.length_map]; exact List.length_filter_le _ _
        omega
      clear hps
      obtain ⟨i0, hi, hz0, hz1, hz2⟩ := info_parts info3
      have HRW3 := Sd.mk (HRW2.out.alloc (.cells #[.int .i64 (x.val : Int)] 3))
      have HV3 := Sd.mk (HV2.out.alloc (.cells #[.int .i64 (x.val : Int)] 3))
      have HZ3 : Sd (w1.heap.size ≤ (w2.alloc (.cells #[.int .i64 (x.val : Int)] 3)).heap.size ∧ w.heap.size + 1 < w1.heap.size) := ⟨by
        have h1 := HZ.out
        have h2 := HB.out.size
        have h3 := HS.out
        rw [World.size_alloc]
        omega⟩
      gi_wp2_with (gi_at_builtin; refine wpListIn_append_own _ rfl _ _ 31 rfl w1.heap.size 3 i0 (.int .i64 0) 1 8 Try.underlying31 hi hz0 hz1 hz2 rfl (by decide) _ _ _ rfl HRW3.out ⟨w2.heap.size, 0, none⟩ 1 1 [.int .i64 (x.val : Int)] rfl rfl (cell_one_new _ _ _) (by simp [Value.oneCell']) (by unfold maxLen; omega) (by omega) HZ3.out.1 ?_; intro v' w4 hown' hgrow _; obtain ⟨g', cap', rfl⟩ := ownsRow_succ hown'; obtain ⟨hv1, hv2, hr2, hk2, hs2, hbl2⟩ := Ytmdnmofcgmmfbaa.Round.put_ HV3.out HZ3.out.2 HZ3.out.1 HRW3.out hown' hgrow; have hc1 := hv1.cell; have hf1 := hv1.frozen)
      have h1 := HS.out
      have h2 := HZ.out
      have h3 := HB.out.size
      have hka : Below W.heap.size W (w2.alloc (.cells #[.int .i64 (x.val : Int)] 3)) := HB.out.alloc HB.out.size _
      have hKA : KeepsOthers W (w2.alloc (.cells #[.int .i64 (x.val : Int)] 3)) := ⟨hka.size, fun k o hk _ => (hka.block k (Array.getElem?_eq_some_iff.1 hk).1).trans hk⟩
      have hb2 : ∀ b, b < w1.heap.size → b ≠ w.heap.size + 1 → (w4.setCell ⟨w.heap.size + 1, 0, none⟩ (.slice (some ⟨g', 0, none⟩) ((trace_when.ps P l0 node pre).length + 1) cap')).heap[b]? = W.heap[b]? := fun b hb hne => (hs2 b hb hne).trans (hka.block b (by omega))
      refine ⟨(hKA.trans hk2).from _, ⟨fun k hk => hb2 k (by omega) (by omega), hb2 _ (by omega) (by omega), hb2 _ (by omega) (by omega), hb2 _ (by omega) (by omega), hb2 _ (by omega) (by omega)⟩, ⟨⟨_, hv2, ?_, trivial⟩, (hb2 _ (by omega) (by omega)).trans HBV.out, (HB2.out.trans (hka.mono HB2.out.size)).trans (hbl2 _ (by omega)), ?_⟩⟩
      · rw [HPS.out]
        simpa using hr2
      · have h4 := hk2.size
        have h5 := HZ3.out.1
        omega
end Go.Proofs.Ytmdnmofcgmmfbaa.T
