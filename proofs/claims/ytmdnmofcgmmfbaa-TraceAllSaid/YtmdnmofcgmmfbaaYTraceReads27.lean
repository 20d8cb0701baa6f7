import Derived.RangeFuncNested
import Derived.RangeFuncBound
import Derived.RangeFuncCalls
import Derived.RangeFuncLeaves
import Derived.Shelf.Abstract
import Derived.Shelf.RegionOpen
import Derived.WalkKit
import Derived.OwnWalkIn
import Derived.TacticsInMore
import Derived.LoopNIn
import Derived.LoopIn
import Derived.Maps.AppendAt
import Derived.Test.YtmdnmofcgmmfbaaYTraceReads26
import Derived.Test.YtmdnmofcgmmfbaaYTraceReads19
set_option maxHeartbeats 4000000
namespace Go.Proofs.Ytmdnmofcgmmfbaa.T
open Go.RowKit Go.Proofs.YtmdnmofcgmmfbaaW.PrintWords Go.Proofs.YtmdnmofcgmmfbaaW.PrintLast Go.Proofs.YtmdnmofcgmmfbaaW.PrintMore
attribute [local go_sem] max2_int min2_int max_two min_two max_three min_three max_four min_four   -- for this text's walks alone
set_option linter.unusedVariables false
set_option linter.unusedSimpArgs false
open Go
attribute [local go_sem] Oper.semAt_some
set_option maxHeartbeats 400000
set_option maxRecDepth 100000
def trace_Got.got (l0 : List (List S28)) (node : Int) (lo n : Nat) : List S53 := ((List.range n).map (lo + ·)).flatMap (fun x => (trace_ticks.rep l0 x node).f6)
def trace_Got.ok (l0 : List (List S28)) (node : Int) : Prop := l0.length ≤ 1000000 ∧ ∀ x, x < l0.length → (trace_ticks.rep l0 x node).f6.length ≤ 1000000
instance trace_Got.okd (l0 : List (List S28)) (node : Int) : Decidable (trace_Got.ok l0 node) := by unfold trace_Got.ok; infer_instance
def trace_Got.f (l0 : List (List (S28))) (a1 : Int) (a2 : Int) (a3 : Int) : Option ((List (S53))) := if trace_Got.ok l0 a1 then some (trace_Got.got l0 a1 a2.toNat ((min a3 (l0.length : Int)).toNat - a2.toNat)) else none
def trace_Got.gs (l0 : List (List S28)) (node : Int) (pre : List (Fin l0.length)) : List S53 := pre.flatMap (fun x => (trace_ticks.rep l0 x.val node).f6)
theorem trace_Got.gs_len (l0 : List (List S28)) (node : Int) (h : trace_Got.ok l0 node) : ∀ pre : List (Fin l0.length), (trace_Got.gs l0 node pre).length ≤ pre.length * 1000000
  | [] => by simp [trace_Got.gs]
  | x :: pre => by
    have h1 := trace_Got.gs_len l0 node h pre
    have h2 := h.2 x.val x.isLt
    have e : (trace_Got.gs l0 node (x :: pre)).length = (trace_ticks.rep l0 x.val node).f6.length + (trace_Got.gs l0 node pre).length := by simp [trace_Got.gs]
    rw [e, List.length_cons]
    omega
theorem trace_Got.gs_snoc (l0 : List (List S28)) (node : Int) (pre : List (Fin l0.length)) (x : Fin l0.length) : trace_Got.gs l0 node (pre ++ [x]) = trace_Got.gs l0 node pre ++ (trace_ticks.rep l0 x.val node).f6 := by simp [trace_Got.gs]
def trace_Got.I (l0 : List (List S28)) (node : Int) (w w1 : World) (pre : List (Fin l0.length)) (W : World) : Prop := Ytmdnmofcgmmfbaa.Round.RBox k53 26 53 w.heap.size w1.heap.size (trace_Got.gs l0 node pre) W ∧ (Below w.heap.size w W ∧ w1.heap.size ≤ W.heap.size)
theorem trace_Got.I_own {l0 : List (List S28)} {node : Int} {w w1 : World} (hz : w.heap.size ≤ w1.heap.size) : OwnFrom w1.heap.size (trace_Got.I l0 node w w1) :=
  OwnFrom.and Ytmdnmofcgmmfbaa.Round.RBox.own (OwnFrom.and (ownFrom_below (Nat.le_refl _) hz) (Ytmdnmofcgmmfbaa.Round.ownFrom_size _ _))
theorem trace_Got.calls (A0 : Option Addr) (c0 : Nat) (l0 : List (List (S28))) (a1 : Int) (a2 : Int) (a3 : Int) (r : List (S53)) (w : World) (hr0 : Kd.C (Kd.slice 28 k28) w A0 l0.length l0) (hc0 : l0.length ≤ c0) (h : trace_Got.f l0 a1 a2 a3 = some r) :
    Calls Try.prog 20 #[.slice A0 l0.length c0, .int .i64 a1, .int .i64 a2, .int .i64 a3] w fun e w' => ∃ v0_ : Value, e = .returned (v0_) ∧ Kd.R k53 53 w' w.heap.size (fun _ => True) v0_ r ∧ Below w.heap.size w w' := by
  unfold trace_Got.f at h
  by_cases hok : trace_Got.ok l0 a1
  case neg => rw [if_neg hok] at h; cases h
  rw [if_pos hok] at h
  obtain rfl := Option.some.inj h
  clear h
  obtain ⟨A, c, hall⟩ := trace_ticks.all w A0 c0 l0 a1 hr0
  have HALL := Sd.mk hall
  have HOK := Sd.mk hok
  clear hall hr0 hok
  refine (callsIn_wide (n := 3)).1 (callsIn_of_wp_marks Try.func20 rfl trivial (wpIn_wide.2 ?_) rfl)
  simp only [Try.ntmps20, List.size_toArray, List.length_cons, List.length_nil, Nat.reduceAdd, Nat.reduceSub, Array.replicate_succ, Array.replicate_zero, List.push_toArray, List.append_toArray, List.nil_append, List.cons_append]
  have hnf : ∀ (l : Array Value) (w : World), (binOp .eql 57 (.func (.func 46) #[] l) .nilFunc).run Try.prog w = .ok (.bool false) w := fun _ _ => rfl
  go_wp2_with (first | (go_at_call 38; (with_reducible refine (trace_ticks.calls A0 c0 l0.length a1 a2 a3 _).mono ?_); rintro e' w1 ⟨rfl, hs, q1, q2, q3, q4, hb⟩; have HS := Sd.mk hs; have Q1 := Sd.mk q1; have Q2 := Sd.mk q2; have Q3 := Sd.mk q3; have Q4 := Sd.mk q4; have HB1 := Sd.mk hb; have KO := Sd.mk (blk_below (blk_new w (.cells #[.slice none 0 0] 26)) hb); clear hs q1 q2 q3 q4 hb))
  simp only [World.size_alloc] at HS Q1 Q2 Q3 Q4 HB1 KO ⊢
  have HBW : Sd (Below w.heap.size w w1) := ⟨(below_alloc (Below.refl _ w) _).trans (HB1.out.mono (by omega))⟩
  refine (wpIn_wide (n := 3)).1 ?_
  refine wpIn_rangeFunc_ownH (F := Fence.wide) rfl (by decide : 1 ≤ 3) (gf := 46) (lb := #[.pointer (some ⟨w.heap.size + 1 + 2, 0, none⟩), .pointer (some ⟨w.heap.size + 1 + 3, 0, none⟩), .pointer (some ⟨w.heap.size + 1, 0, none⟩), .pointer (some ⟨w.heap.size + 1 + 1, 0, none⟩)]) rfl trivial (enters_of Try.func46 (by kernel_rfl) rfl)
    (trace_ticks.stops 2 (by decide) _ _ _ _ w A0 c0 l0 a1 a2 a3 a2.toNat (min a3 (l0.length : Int)).toNat rfl rfl A c HOK.out.1 (fun x hx => (HALL.out x hx).2.2) w1 (fun k hk => HBW.out.block k hk) Q1.out Q2.out Q3.out Q4.out) trace_ticks.Kp.trans (trace_ticks.Kp.book (by have := HS.out; omega) (by have := HS.out; omega) (by have := HS.out; omega) (by have := HS.out; omega) (by have := HS.out; omega)) (Below.refl _ _) (fun _ => rfl)
    (trace_Got.I l0 a1 w w1)
    (fun _ _ _ => False)
    (trace_Got.I_own HBW.out.size)
    (fun _ _ _ _ _ hs _ _ => hs)
    ⟨⟨_, KO.out, Kd.R_nil _ _ _ _ _⟩, HBW.out, Nat.le_refl _⟩
    (fun x a' W => ∃ g, w1.heap.size ≤ g ∧ W.heap[g]? = some (.cells #[.bool (trace_ticks.rep l0 x.val a1).f0, .bool (trace_ticks.rep l0 x.val a1).f1, .int .i64 (trace_ticks.rep l0 x.val a1).f2, .int .i64 (trace_ticks.rep l0 x.val a1).f3, .string (trace_ticks.rep l0 x.val a1).f4, .int .i64 (trace_ticks.rep l0 x.val a1).f5, .slice (A x.val) (trace_ticks.rep l0 x.val a1).f6.length (c x.val)] 28 (0, 0)) ∧ a' = ⟨#[.slice A0 l0.length c0, .int .i64 a1, .int .i64 a2, .int .i64 a3, undef, undef, undef, undef, .slice none 0 0, .pointer (some ⟨w.heap.size, 0, none⟩), undef, .pointer (some ⟨g, 0, none⟩), .slice A0 l0.length c0, .int .i64 a1, .int .i64 a2, .int .i64 a3, .func (.func 46) #[] #[.pointer (some ⟨w.heap.size + 1 + 2, 0, none⟩), .pointer (some ⟨w.heap.size + 1 + 3, 0, none⟩), .pointer (some ⟨w.heap.size + 1, 0, none⟩), .pointer (some ⟨w.heap.size + 1 + 1, 0, none⟩)], .int .i64 (x.val : Int), .agg #[.bool (trace_ticks.rep l0 x.val a1).f0, .bool (trace_ticks.rep l0 x.val a1).f1, .int .i64 (trace_ticks.rep l0 x.val a1).f2, .int .i64 (trace_ticks.rep l0 x.val a1).f3, .string (trace_ticks.rep l0 x.val a1).f4, .int .i64 (trace_ticks.rep l0 x.val a1).f5, .slice (A x.val) (trace_ticks.rep l0 x.val a1).f6.length (c x.val)], undef, undef, undef, undef, undef], []⟩)
    (fun x a' => ?hAx) ?assign ?body ?done ?stop
  case hAx =>
    rintro s X Y row ⟨g, h1, h2, h3⟩ hg hr
    refine ⟨g, h1, ?_, h3⟩
    exact Ytmdnmofcgmmfbaa.Round.blk_own (β := Unit) g _ rfl () X Y row h2 hg (fun r e => (hr r e).2)
  case stop => exact fun D cc pre W _ _ hs => hs.elim
  case assign =>
    intro l pre x W K hI hK
    have hu28 := Try.underlying28
    have hz : w1.heap.size ≤ W.heap.size := hI.2.2
    have HII := Sd.mk hI
    have HZ := Sd.mk hz
    clear hI hz
    unfold trace_ticks.val
    gi_wp2
    exact hK _ _ ((KeepsOthers.alloc _ _).from _) (by
      have h1 := HS.out
      have h2 := HZ.out
      exact trace_ticks.Kp.below (below_alloc (Below.refl _ W) _) (by omega) (by omega) (by omega) (by omega) (by omega)) ((trace_Got.I_own HBW.out.size).alloc _ HII.out) ⟨W.heap.size, HZ.out, blk_new W _, rfl⟩
  case body =>
    rintro l pre x a' W hl ⟨rr, hrr⟩ hI ⟨g, hgz, hgb, rfl⟩ hlt
    obtain ⟨⟨vv, hv, hrow⟩, hB, hz⟩ := hI
    obtain ⟨AA, cc, rfl⟩ := Kd.R_slice hrow
    have hg6 : W.cell? ⟨g, 6, none⟩ = some (.slice (A x.val) (trace_ticks.rep l0 x.val a1).f6.length (c x.val)) := (blk_cell hgb 6).trans rfl
    have hva := hv.cell
    have hvf := hv.frozen
    have HB2 := Sd.mk hB
    have HZ := Sd.mk hz
    have HRW := Sd.mk hrow
    have HV := Sd.mk hv
    have HC : Sd (Kd.C k53 W (A x.val) (trace_ticks.rep l0 x.val a1).f6.length (trace_ticks.rep l0 x.val a1).f6) := ⟨Kd.C_below (HALL.out x.val x.isLt).2.1 hB⟩
    have HLN : Sd (((trace_Got.gs l0 a1 pre).length + (trace_ticks.rep l0 x.val a1).f6.length) * 40 ≤ 140737488355328) := ⟨by
      have h1 := trace_Got.gs_len l0 a1 HOK.out pre
      have h2 := HOK.out.2 x.val x.isLt
      have h3 := HOK.out.1
      have h4 : pre.length < 1000000 := by omega
      omega⟩
    have HLT := Sd.mk hlt
    clear hgb hrow hv hB hz hgz hlt
    refine wpIn_block (Ytmdnmofcgmmfbaa.Round.region_in (by kernel_rfl) (by rintro ⟨_, _, q⟩; exact q) ?_)
    go_wp2_with (at_builtin; refine Kd.R_append_rows k53 (w0 := W) w1.heap.size rfl (.tmp 19) (.tmp 21) 26 53 (.agg #[(.int .i64 0), (.int .i64 0), (.int .i64 0), (.string ⟨#[]⟩)]) 40 rfl Try.underlying26 info53 rfl (by decide) (by omega) _ (trace_Got.gs l0 a1 pre) (trace_ticks.rep l0 x.val a1).f6 (A x.val) _ _ (fun _ => True) (fun _ => False) rfl rfl HRW.out HC.out (fun x cs h => by rw [k53_open h]; exact k53_mkM _ _ _ x) (fun _ h => h.elim) (fun _ _ => trivial) (Below.refl _ _) HZ.out HLN.out ?_; intro v1 w4 ho hb hg hat; obtain ⟨A1_, c1_, rfl⟩ := Kd.R_slice ho; obtain ⟨hv1, hv2, hk2, hs2, hbl2, hz2⟩ := Ytmdnmofcgmmfbaa.Round.putR HV.out (by have := HS.out; omega) HZ.out HRW.out ho hg; have hc1 := hv1.cell; have hf1 := hv1.frozen)
    simp only [List.length_append] at hv2 hk2 hs2 hbl2 hz2
    have h1 := HS.out
    refine ⟨hk2.from _, ⟨fun k hk => hs2 k (by omega) (by omega), hs2 _ (by omega) (by omega), hs2 _ (by omega) (by omega), hs2 _ (by omega) (by omega), hs2 _ (by omega) (by omega)⟩, ⟨by rw [trace_Got.gs_snoc]; exact hv2, HB2.out.trans (hbl2 _ (Nat.le_refl _)), Nat.le_trans HZ.out hz2⟩⟩
  case done =>
    rintro D ys W hD hys hI hK
    have hp : trace_Got.gs l0 a1 ys = trace_Got.got l0 a1 a2.toNat ((min a3 (l0.length : Int)).toNat - a2.toNat) := by
      unfold trace_Got.gs trace_Got.got
      rw [← hys, List.flatMap_map]
    obtain ⟨⟨vv, hv, hrow⟩, hB, hz⟩ := hI
    have hva := hv.cell
    have HD9 := Sd.mk hD
    have HK9 := Sd.mk hK
    rw [hp] at hrow
    have HROW := Sd.mk hrow
    clear hD hK hys hrow hp
    go_wp2
    refine ⟨by simp, .inl ⟨_, _, rfl, run_takeDeferred HK9.out, ?_⟩⟩
    exact ⟨_, results_tmp rfl _ _ _, _, rfl, Kd.R_lower (Ytmdnmofcgmmfbaa.Round.R_own HROW.out (grownBy_putObj' W D (.deferred none)) (fun r e => by cases e; exact ⟨HD9.out, _, HK9.out, rfl⟩)) HBW.out.size, hB.trans (belowK_b (w := w) (Nat.le_refl _) W D _ _ (Nat.le_trans HBW.out.size HD9.out) HK9.out rfl rfl)⟩
end Go.Proofs.Ytmdnmofcgmmfbaa.T
