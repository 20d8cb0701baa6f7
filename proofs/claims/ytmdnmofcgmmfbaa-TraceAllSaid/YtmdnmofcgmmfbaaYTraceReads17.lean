import Derived.Test.YtmdnmofcgmmfbaaYTraceReads15
import Derived.Test.YtmdnmofcgmmfbaaYTraceReads16
import Derived.RangeFuncNested
import Derived.RangeFuncBound
import Derived.RangeFuncCalls
import Derived.RangeFuncLeaves
import Derived.Shelf.Abstract
import Derived.Shelf.RegionOpen
import Derived.WalkKit
import Derived.OwnWalkIn
import Derived.TacticsInMore
import Derived.LoopNIn
import Derived.LoopIn
import Derived.Maps.AppendAt
import Derived.Test.YtmdnmofcgmmfbaaYTraceReads13
namespace Go.Proofs.Ytmdnmofcgmmfbaa.T
open Go.RowKit Go.Proofs.YtmdnmofcgmmfbaaW.PrintWords Go.Proofs.YtmdnmofcgmmfbaaW.PrintLast Go.Proofs.YtmdnmofcgmmfbaaW.PrintMore
attribute [local go_sem] max2_int min2_int max_two min_two max_three min_three max_four min_four   -- for this text's walks alone
set_option linter.unusedVariables false
set_option linter.unusedSimpArgs false
open Go
attribute [local go_sem] Oper.semAt_some
set_option maxHeartbeats 400000
set_option maxRecDepth 100000
def trace_ticks.rep (l0 : List (List S28)) (x : Nat) (node : Int) : S28 := if 0 ≤ node ∧ node < ((rd_L6 l0 (x : Int)).length : Int) then rd_T28 (rd_L6 l0 (x : Int)) node else z28
def trace_ticks.val (r : S28) (A : Option Addr) (c : Nat) : Value := .agg #[.bool r.f0, .bool r.f1, .int .i64 r.f2, .int .i64 r.f3, .string r.f4, .int .i64 r.f5, .slice A r.f6.length c]
theorem trace_ticks.cell_in {w0 W : World} (hW : ∀ k, k < w0.heap.size → W.heap[k]? = w0.heap[k]?) {p : Addr} {v : Value} (h : w0.cell? p = some v) : W.cell? p = some v := by
  have hlt : p.block < w0.heap.size := by
    unfold World.cell? at h
    cases hb : w0.heap[p.block]? with
    | none => simp [hb] at h
    | some o => exact (Array.getElem?_eq_some_iff.1 hb).1
  unfold World.cell? at h ⊢
  rw [hW _ hlt]
  exact h
theorem trace_ticks.at_out (w0 W : World) (A0 : Option Addr) (c0 : Nat) (l0 : List (List S28)) (node : Int) (hW : ∀ k, k < w0.heap.size → W.heap[k]? = w0.heap[k]?) (hr0 : Kd.C (Kd.slice 28 k28) w0 A0 l0.length l0) (x : Nat) (hx : x < l0.length) (hn : node < 0 ∨ ((rd_L6 l0 (x : Int)).length : Int) ≤ node) :
    Calls Try.prog 12 #[.slice A0 l0.length c0, .int .i64 (x : Int), .int .i64 node] W fun e w' => e = .returned (trace_ticks.val z28 none 0) ∧ Below W.heap.size W w' := by
  have hu28 := Try.underlying28
  have c1 : decide ((x : Int) < 0) = false := decide_eq_false (by omega)
  have c2 : decide ((l0.length : Int) ≤ (x : Int)) = false := decide_eq_false (by omega)
  obtain ⟨ad, A1, cc, rfl, hcell, hlc, hr1⟩ := at_L6 hr0 (x : Int) (by omega) (by omega)
  rw [Int.toNat_natCast] at hcell
  have hc := pw_cell_below (below_alloc (Below.refl _ W) (.cells #[.bool false, .bool false, .int .i64 0, .int .i64 0, .string (⟨#[]⟩ : ByteArray), .int .i64 0, .slice none 0 0] 28)) (trace_ticks.cell_in hW hcell)
  have p1 : (0 ≤ (x : Int)) = True := eq_true (by omega)
  have q1 : ((x : Int) < (l0.length : Int)) = True := eq_true (by omega)
  by_cases h : node < 0
  · have c3 : decide (node < 0) = true := decide_eq_true h
    go_enter Try.func12, Try.ntmps12
    go_wp2
    refine bodyPost_ret (results_cell_row rfl _ _ W.heap.size 28 #[.bool false, .bool false, .int .i64 0, .int .i64 0, .string (⟨#[]⟩ : ByteArray), .int .i64 0, .slice none 0 0] (0, 0) _ rfl (blk_new W _) hu28 rfl rfl) rfl ?_
    exact ⟨rfl, below_alloc (Below.refl _ W) _⟩
  · have c3 : decide (node < 0) = false := decide_eq_false h
    have c4 : decide (((rd_L6 l0 (x : Int)).length : Int) ≤ node) = true := decide_eq_true (by omega)
    go_enter Try.func12, Try.ntmps12
    go_wp2
    refine bodyPost_ret (results_cell_row rfl _ _ W.heap.size 28 #[.bool false, .bool false, .int .i64 0, .int .i64 0, .string (⟨#[]⟩ : ByteArray), .int .i64 0, .slice none 0 0] (0, 0) _ rfl (blk_new W _) hu28 rfl rfl) rfl ?_
    exact ⟨rfl, below_alloc (Below.refl _ W) _⟩
theorem trace_ticks.at_in (w0 : World) (c0 : Nat) (l0 : List (List S28)) (node : Int) (ad : Addr) (A1 : Option Addr) (cc : Nat) (x : Nat) (hx : x < l0.length)
    (hcell : w0.cell? (ad.add x) = some (.slice A1 (rd_L6 l0 (x : Int)).length cc)) (hr1 : k28.C w0 A1 (rd_L6 l0 (x : Int)).length (rd_L6 l0 (x : Int))) (h0 : 0 ≤ node) (h1 : node < ((rd_L6 l0 (x : Int)).length : Int)) :
    ∃ A c, (rd_T28 (rd_L6 l0 (x : Int)) node).f6.length ≤ c ∧ Kd.C k53 w0 A (rd_T28 (rd_L6 l0 (x : Int)) node).f6.length (rd_T28 (rd_L6 l0 (x : Int)) node).f6 ∧
    ∀ W : World, (∀ k, k < w0.heap.size → W.heap[k]? = w0.heap[k]?) → Calls Try.prog 12 #[.slice (some ad) l0.length c0, .int .i64 (x : Int), .int .i64 node] W fun e w' => e = .returned (trace_ticks.val (rd_T28 (rd_L6 l0 (x : Int)) node) A c) ∧ Below W.heap.size W w' := by
  have hu28 := Try.underlying28
  have c1 : decide ((x : Int) < 0) = false := decide_eq_false (by omega)
  have c2 : decide ((l0.length : Int) ≤ (x : Int)) = false := decide_eq_false (by omega)
  have p1 : (0 ≤ (x : Int)) = True := eq_true (by omega)
  have q1 : ((x : Int) < (l0.length : Int)) = True := eq_true (by omega)
  have c3 : decide (node < 0) = false := decide_eq_false (by omega)
  have c4 : decide (((rd_L6 l0 (x : Int)).length : Int) ≤ node) = false := decide_eq_false (by omega)
  obtain ⟨bd, A, c, rfl, g0, g1, g2, g3, g4, g5, g6, hl, hC⟩ := at_T28 hr1 node h0 h1
  have p2 : (0 ≤ node) = True := eq_true h0
  have q2 : (node < ((rd_L6 l0 (x : Int)).length : Int)) = True := eq_true h1
  refine ⟨A, c, hl, hC, fun W hW => ?_⟩
  have hc := pw_cell_below (below_alloc (Below.refl _ W) (.cells #[.bool false, .bool false, .int .i64 0, .int .i64 0, .string (⟨#[]⟩ : ByteArray), .int .i64 0, .slice none 0 0] 28)) (trace_ticks.cell_in hW hcell)
  have b0 := pw_cell_below (below_alloc (Below.refl _ W) (.cells #[.bool false, .bool false, .int .i64 0, .int .i64 0, .string (⟨#[]⟩ : ByteArray), .int .i64 0, .slice none 0 0] 28)) (trace_ticks.cell_in hW g0)
  have b1 := pw_cell_below (below_alloc (Below.refl _ W) (.cells #[.bool false, .bool false, .int .i64 0, .int .i64 0, .string (⟨#[]⟩ : ByteArray), .int .i64 0, .slice none 0 0] 28)) (trace_ticks.cell_in hW g1)
  have b2 := pw_cell_below (below_alloc (Below.refl _ W) (.cells #[.bool false, .bool false, .int .i64 0, .int .i64 0, .string (⟨#[]⟩ : ByteArray), .int .i64 0, .slice none 0 0] 28)) (trace_ticks.cell_in hW g2)
  have b3 := pw_cell_below (below_alloc (Below.refl _ W) (.cells #[.bool false, .bool false, .int .i64 0, .int .i64 0, .string (⟨#[]⟩ : ByteArray), .int .i64 0, .slice none 0 0] 28)) (trace_ticks.cell_in hW g3)
  have b4 := pw_cell_below (below_alloc (Below.refl _ W) (.cells #[.bool false, .bool false, .int .i64 0, .int .i64 0, .string (⟨#[]⟩ : ByteArray), .int .i64 0, .slice none 0 0] 28)) (trace_ticks.cell_in hW g4)
  have b5 := pw_cell_below (below_alloc (Below.refl _ W) (.cells #[.bool false, .bool false, .int .i64 0, .int .i64 0, .string (⟨#[]⟩ : ByteArray), .int .i64 0, .slice none 0 0] 28)) (trace_ticks.cell_in hW g5)
  have b6 := pw_cell_below (below_alloc (Below.refl _ W) (.cells #[.bool false, .bool false, .int .i64 0, .int .i64 0, .string (⟨#[]⟩ : ByteArray), .int .i64 0, .slice none 0 0] 28)) (trace_ticks.cell_in hW g6)
  go_enter Try.func12, Try.ntmps12
  go_wp2
  refine bodyPost_ret (results_cell_row rfl _ _ W.heap.size 28 _ (0, 0) _ rfl (blk_new W _) hu28 rfl rfl) rfl ?_
  exact ⟨rfl, below_alloc (Below.refl _ W) _⟩
theorem trace_ticks.all (w0 : World) (A0 : Option Addr) (c0 : Nat) (l0 : List (List S28)) (node : Int) (hr0 : Kd.C (Kd.slice 28 k28) w0 A0 l0.length l0) : ∃ (A : Nat → Option Addr) (c : Nat → Nat), ∀ x, x < l0.length →
    (trace_ticks.rep l0 x node).f6.length ≤ c x ∧ Kd.C k53 w0 (A x) (trace_ticks.rep l0 x node).f6.length (trace_ticks.rep l0 x node).f6 ∧
    ∀ W : World, (∀ k, k < w0.heap.size → W.heap[k]? = w0.heap[k]?) → Calls Try.prog 12 #[.slice A0 l0.length c0, .int .i64 (x : Int), .int .i64 node] W fun e w' => e = .returned (trace_ticks.val (trace_ticks.rep l0 x node) (A x) (c x)) ∧ Below W.heap.size W w' := by
  have h : ∀ x : Nat, ∃ z : Option Addr × Nat, x < l0.length → (trace_ticks.rep l0 x node).f6.length ≤ z.2 ∧ Kd.C k53 w0 z.1 (trace_ticks.rep l0 x node).f6.length (trace_ticks.rep l0 x node).f6 ∧
      ∀ W : World, (∀ k, k < w0.heap.size → W.heap[k]? = w0.heap[k]?) → Calls Try.prog 12 #[.slice A0 l0.length c0, .int .i64 (x : Int), .int .i64 node] W fun e w' => e = .returned (trace_ticks.val (trace_ticks.rep l0 x node) z.1 z.2) ∧ Below W.heap.size W w' := by
    intro x
    by_cases hx : x < l0.length
    case neg => exact ⟨(none, 0), fun h => absurd h hx⟩
    by_cases hn : 0 ≤ node ∧ node < ((rd_L6 l0 (x : Int)).length : Int)
    · obtain ⟨ad, A1, cc, rfl, hcell, hlc, hr1⟩ := at_L6 hr0 (x : Int) (by omega) (by omega)
      rw [Int.toNat_natCast] at hcell
      obtain ⟨A, c, h1, h2, h3⟩ := trace_ticks.at_in w0 c0 l0 node ad A1 cc x hx hcell hr1 hn.1 hn.2
      have e : trace_ticks.rep l0 x node = rd_T28 (rd_L6 l0 (x : Int)) node := if_pos hn
      exact ⟨(A, c), fun _ => by rw [e]; exact ⟨h1, h2, h3⟩⟩
    · have e : trace_ticks.rep l0 x node = z28 := if_neg hn
      refine ⟨(none, 0), fun _ => ?_⟩
      rw [e]
      exact ⟨Nat.le_refl _, Kd.C_nil _ _, fun W hW => trace_ticks.at_out w0 W A0 c0 l0 node hW hr0 x hx (by omega)⟩
  exact ⟨fun x => (Classical.choose (h x)).1, fun x => (Classical.choose (h x)).2, fun x hx => Classical.choose_spec (h x) hx⟩
def trace_ticks.Kp (B b1 b2 b3 b4 : Nat) (W W' : World) : Prop := (∀ k, k < B → W'.heap[k]? = W.heap[k]?) ∧ W'.heap[b1]? = W.heap[b1]? ∧ W'.heap[b2]? = W.heap[b2]? ∧ W'.heap[b3]? = W.heap[b3]? ∧ W'.heap[b4]? = W.heap[b4]?
theorem trace_ticks.Kp.trans {B b1 b2 b3 b4 : Nat} {X Y Z : World} (h : trace_ticks.Kp B b1 b2 b3 b4 X Y) (k : trace_ticks.Kp B b1 b2 b3 b4 Y Z) : trace_ticks.Kp B b1 b2 b3 b4 X Z := ⟨fun i hi => (k.1 i hi).trans (h.1 i hi), k.2.1.trans h.2.1, k.2.2.1.trans h.2.2.1, k.2.2.2.1.trans h.2.2.2.1, k.2.2.2.2.trans h.2.2.2.2⟩
theorem trace_ticks.Kp.below {B b1 b2 b3 b4 : Nat} {X Y : World} (h : Below X.heap.size X Y) (hB : B ≤ X.heap.size) (h1 : b1 < X.heap.size) (h2 : b2 < X.heap.size) (h3 : b3 < X.heap.size) (h4 : b4 < X.heap.size) : trace_ticks.Kp B b1 b2 b3 b4 X Y := ⟨fun i hi => h.block i (by omega), h.block _ h1, h.block _ h2, h.block _ h3, h.block _ h4⟩
theorem trace_ticks.Kp.cell {B b1 b2 b3 b4 : Nat} {X Y : World} (h : trace_ticks.Kp B b1 b2 b3 b4 X Y) {b : Nat} (hb : b = b1 ∨ b = b2 ∨ b = b3 ∨ b = b4) (o : Nat) : Y.cell? ⟨b, o, none⟩ = X.cell? ⟨b, o, none⟩ := by
  rcases hb with rfl | rfl | rfl | rfl
  · simp [World.cell?, h.2.1]
  · simp [World.cell?, h.2.2.1]
  · simp [World.cell?, h.2.2.2.1]
  · simp [World.cell?, h.2.2.2.2]
theorem trace_ticks.lt_of_cell {W : World} {b o : Nat} {v : Value} (h : W.cell? ⟨b, o, none⟩ = some v) : b < W.heap.size := by
  unfold World.cell? at h
  cases hb : W.heap[b]? with
  | none => simp [hb] at h
  | some o => exact (Array.getElem?_eq_some_iff.1 hb).1
theorem trace_ticks.size_in {w0 W : World} (h : ∀ i, i < w0.heap.size → W.heap[i]? = w0.heap[i]?) : w0.heap.size ≤ W.heap.size := by
  rcases Nat.eq_zero_or_pos w0.heap.size with h0 | h0
  · omega
  · have g := h (w0.heap.size - 1) (by omega)
    rw [Array.getElem?_eq_getElem (xs := w0.heap) (i := w0.heap.size - 1) (by omega)] at g
    have := (Array.getElem?_eq_some_iff.1 g).1
    omega
theorem trace_ticks.iter (n : Nat) (hn : 1 ≤ n) (l b1 b2 b3 b4 : Nat) (w0 : World) (A0 : Option Addr) (c0 : Nat) (l0 : List (List S28)) (node fr to_ : Int) (lo hi : Nat) (hlo : lo = fr.toNat) (hhi : hi = (min to_ (l0.length : Int)).toNat) (A : Nat → Option Addr) (c : Nat → Nat) (hlen : l0.length ≤ 1000000)
    (hall : ∀ x, x < l0.length → ∀ W : World, (∀ k, k < w0.heap.size → W.heap[k]? = w0.heap[k]?) → Calls Try.prog 12 #[.slice A0 l0.length c0, .int .i64 (x : Int), .int .i64 node] W fun e w' => e = .returned (trace_ticks.val (trace_ticks.rep l0 x node) (A x) (c x)) ∧ Below W.heap.size W w')
    (J Jx : List (Fin l0.length) → World → Prop) (hJ : ∀ pre W W', J pre W → Below W.heap.size W W' → J pre W')
    (hY : ∀ pre (x : Fin l0.length) W, J pre W → pre.length < hi - lo → YieldAt Fence.wide (n - 1) Try.prog l #[.int .i64 (x.val : Int), trace_ticks.val (trace_ticks.rep l0 x.val node) (A x.val) (c x.val)] W fun e W' =>
      (e = .returned (.bool true) ∧ J (pre ++ [x]) W' ∧ trace_ticks.Kp w0.heap.size b1 b2 b3 b4 W W') ∨ (e = .returned (.bool false) ∧ Jx (pre ++ [x]) W'))
    (W : World) (hW : ∀ k, k < w0.heap.size → W.heap[k]? = w0.heap[k]?) (hc1 : W.cell? ⟨b1, 0, none⟩ = some (.int .i64 fr)) (hc2 : W.cell? ⟨b2, 0, none⟩ = some (.int .i64 to_)) (hc3 : W.cell? ⟨b3, 0, none⟩ = some (.slice A0 l0.length c0)) (hc4 : W.cell? ⟨b4, 0, none⟩ = some (.int .i64 node)) (h0 : J [] W) :
    CallsIn Fence.wide n Try.prog 46 #[.func (.yield l) #[] #[], .pointer (some ⟨b1, 0, none⟩), .pointer (some ⟨b2, 0, none⟩), .pointer (some ⟨b3, 0, none⟩), .pointer (some ⟨b4, 0, none⟩)] W fun e W' => (∃ v, e = .returned v) ∧
      ((∃ ys : List (Fin l0.length), ys.map Fin.val = (List.range (hi - lo)).map (lo + ·) ∧ J ys W') ∨ (∃ pre : List (Fin l0.length), (∃ k, k ≤ hi - lo ∧ pre.map Fin.val = (List.range k).map (lo + ·)) ∧ Jx pre W')) := by
  have hmx : Builtin.max2 (.int .i64 fr) (.int .i64 0) = (pure (.int .i64 (lo : Int)) : Sem Value) := by
    rw [max2_int]
    congr 2
    split <;> omega
  have hmn : Builtin.min2 (.int .i64 to_) (.int .i64 (l0.length : Int)) = (pure (.int .i64 (min to_ (l0.length : Int))) : Sem Value) := by
    rw [min2_int]
    congr 2
    split <;> omega
  have HLO := Sd.mk hlo
  have HHI := Sd.mk hhi
  clear hlo hhi
  refine callsIn_of_wp Try.func46 rfl trivial ?_ rfl
  simp only [Try.ntmps46, List.size_toArray, List.length_cons, List.length_nil, Nat.reduceAdd, Nat.reduceSub, Array.replicate_succ, Array.replicate_zero, List.push_toArray, List.append_toArray, List.nil_append, List.cons_append]
  gi_wp2
  gi_loopw [6] (fun i wr => ∃ k : Nat, (k = 0 ∨ k ≤ hi - lo) ∧ i = .int .i64 ((lo + k : Nat) : Int) ∧ (∃ pre : List (Fin l0.length), pre.map Fin.val = (List.range k).map (lo + ·) ∧ J pre wr) ∧ (wr = W ∨ trace_ticks.Kp w0.heap.size b1 b2 b3 b4 W wr))
    (fun i _ => hi - (intOf i).toNat)
  case atStart => exact ⟨0, .inl rfl, rfl, ⟨[], rfl, h0⟩, .inl rfl⟩
  case round =>
    obtain ⟨k, hk, rfl, ⟨pre, hpre, hJs⟩, hnx⟩ := hrel
    have hq0 : wr.cell? ⟨b1, 0, none⟩ = some (.int .i64 fr) := by
      rcases hnx with rfl | hnx
      · exact hc1
      · exact (hnx.cell (.inl rfl) 0).trans hc1
    have hq1 : wr.cell? ⟨b2, 0, none⟩ = some (.int .i64 to_) := by
      rcases hnx with rfl | hnx
      · exact hc2
      · exact (hnx.cell (.inr (.inl rfl)) 0).trans hc2
    have hq2 : wr.cell? ⟨b3, 0, none⟩ = some (.slice A0 l0.length c0) := by
      rcases hnx with rfl | hnx
      · exact hc3
      · exact (hnx.cell (.inr (.inr (.inl rfl))) 0).trans hc3
    have hq3 : wr.cell? ⟨b4, 0, none⟩ = some (.int .i64 node) := by
      rcases hnx with rfl | hnx
      · exact hc4
      · exact (hnx.cell (.inr (.inr (.inr rfl))) 0).trans hc4
    have hWr : ∀ i, i < w0.heap.size → wr.heap[i]? = w0.heap[i]? := by
      rcases hnx with rfl | hnx
      · exact hW
      · exact fun i hi => (hnx.1 i hi).trans (hW i hi)
    have hlen2 : pre.length = k := by have := congrArg List.length hpre; simpa using this
    by_cases hlt : lo + k < hi
    · have hhi := HHI.out
      have d1 : decide (((lo + k : Nat) : Int) < min to_ (l0.length : Int)) = true := decide_eq_true (by omega)
      simp only [Int.natCast_add] at d1
      have hall1 := hall (lo + k) (by omega) wr hWr
      have hx : lo + k < l0.length := by omega
      have hyy := hY pre ⟨lo + k, hx⟩
      clear hhi
      have hw : Sd (wrap64 ((lo : Int) + (k : Int) + 1) = ((lo + (k + 1) : Nat) : Int)) := ⟨by
        simp only [wrap64]
        omega⟩
      simp only [Int.natCast_add] at hall1 hyy
      gi_wp2
      refine ⟨trivial, (callsIn_wide (n := n - 1)).2 (hall1.mono ?_)⟩
      rintro e w1 ⟨rfl, hb⟩
      obtain ⟨fn, tmps, assign, body, hy, hR⟩ := hyy w1 (hJ _ _ _ hJs hb) (by omega)
      gi_wp2
      refine hR.mono ?_
      rintro e W3 (⟨rfl, hJ3, hk3⟩ | ⟨rfl, hJx3⟩)
      · have hkk := (trace_ticks.Kp.below hb (trace_ticks.size_in hWr) (trace_ticks.lt_of_cell hq0) (trace_ticks.lt_of_cell hq1) (trace_ticks.lt_of_cell hq2) (trace_ticks.lt_of_cell hq3)).trans hk3
        gi_wp2
        go_roundw
        case rel => exact ⟨k + 1, by have := HHI.out; omega, by rw [show ((lo : Int) + (k : Int) + 1) = ((lo + (k + 1) : Nat) : Int) by omega], ⟨_, by rw [List.map_append, hpre, List.range_succ, List.map_append]; rfl, hJ3⟩, .inr (hnx.elim (fun e => by subst e; exact hkk) (fun h => h.trans hkk))⟩
        case measure => simp [intOf]; omega
      · gi_wp2
        refine bodyPost_ret (results_none rfl _ _ _) rfl ?_
        exact ⟨⟨_, rfl⟩, .inr ⟨_, ⟨k + 1, by omega, by rw [List.map_append, hpre, List.range_succ, List.map_append]; rfl⟩, hJx3⟩⟩
    · have hhi := HHI.out
      have d1 : decide (((lo + k : Nat) : Int) < min to_ (l0.length : Int)) = false := decide_eq_false (by omega)
      simp only [Int.natCast_add] at d1
      clear hhi
      gi_wp2
      go_end0
      exact ⟨⟨_, rfl⟩, .inl ⟨_, by rw [hpre]; congr 2; omega, hJs⟩⟩
theorem trace_ticks.stops (n : Nat) (hn : 1 ≤ n) (b1 b2 b3 b4 : Nat) (w0 : World) (A0 : Option Addr) (c0 : Nat) (l0 : List (List S28)) (node fr to_ : Int) (lo hi : Nat) (hlo : lo = fr.toNat) (hhi : hi = (min to_ (l0.length : Int)).toNat) (A : Nat → Option Addr) (c : Nat → Nat) (hlen : l0.length ≤ 1000000)
    (hall : ∀ x, x < l0.length → ∀ W : World, (∀ k, k < w0.heap.size → W.heap[k]? = w0.heap[k]?) → Calls Try.prog 12 #[.slice A0 l0.length c0, .int .i64 (x : Int), .int .i64 node] W fun e w' => e = .returned (trace_ticks.val (trace_ticks.rep l0 x node) (A x) (c x)) ∧ Below W.heap.size W w')
    (w : World) (hw : ∀ k, k < w0.heap.size → w.heap[k]? = w0.heap[k]?) (hc1 : w.cell? ⟨b1, 0, none⟩ = some (.int .i64 fr)) (hc2 : w.cell? ⟨b2, 0, none⟩ = some (.int .i64 to_)) (hc3 : w.cell? ⟨b3, 0, none⟩ = some (.slice A0 l0.length c0)) (hc4 : w.cell? ⟨b4, 0, none⟩ = some (.int .i64 node)) :
    SeqStopsK Fence.wide n Try.prog 46 #[.pointer (some ⟨b1, 0, none⟩), .pointer (some ⟨b2, 0, none⟩), .pointer (some ⟨b3, 0, none⟩), .pointer (some ⟨b4, 0, none⟩)] (fun x : Fin l0.length => #[Value.int .i64 (x.val : Int), trace_ticks.val (trace_ticks.rep l0 x.val node) (A x.val) (c x.val)]) (trace_ticks.Kp w0.heap.size b1 b2 b3 b4)
      (fun ys => ys.map Fin.val = (List.range (hi - lo)).map (lo + ·)) (fun pre => ∃ k, k ≤ hi - lo ∧ pre.map Fin.val = (List.range k).map (lo + ·)) (hi - lo) w := fun l J Jx W hW hA _ hY h0 =>
  trace_ticks.iter n hn l b1 b2 b3 b4 w0 A0 c0 l0 node fr to_ lo hi hlo hhi A c hlen hall J Jx
    (fun pre X Y h hb => hA pre X Y none h ⟨hb.os, hb.tape, hb.output, hb.size, fun i hi _ => hb.block i hi⟩ (fun r e => by cases e)) hY W
    (fun k hk => (hW.block k (Nat.lt_of_lt_of_le hk (trace_ticks.size_in hw))).trans (hw k hk))
    ((hW.cell (p := ⟨b1, 0, none⟩) (trace_ticks.lt_of_cell hc1)).trans hc1) ((hW.cell (p := ⟨b2, 0, none⟩) (trace_ticks.lt_of_cell hc2)).trans hc2) ((hW.cell (p := ⟨b3, 0, none⟩) (trace_ticks.lt_of_cell hc3)).trans hc3) ((hW.cell (p := ⟨b4, 0, none⟩) (trace_ticks.lt_of_cell hc4)).trans hc4) h0
end Go.Proofs.Ytmdnmofcgmmfbaa.T
