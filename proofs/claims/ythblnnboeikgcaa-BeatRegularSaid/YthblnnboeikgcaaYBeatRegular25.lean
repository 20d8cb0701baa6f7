import Derived.Test.YthblnnboeikgcaaYBeatRegular5
set_option maxHeartbeats 1000000
namespace Go.Proofs.Ythblnnboeikgcaa.B
open Go.RowKit Go.Proofs.YthblnnboeikgcaaW.PrintWords Go.Proofs.YthblnnboeikgcaaW.PrintLast Go.Proofs.YthblnnboeikgcaaW.PrintMore
attribute [local go_sem] max2_int min2_int max_two min_two max_three min_three max_four min_four   -- for this text's walks alone
set_option linter.unusedVariables false
set_option linter.unusedSimpArgs false
def tally_count.cnt (v : Int) (l : List Int) : Int := (l.count v : Nat)
theorem tally_count.cnt_le (v : Int) (l : List Int) : 0 ≤ tally_count.cnt v l ∧ tally_count.cnt v l ≤ l.length := ⟨by unfold tally_count.cnt; omega, by unfold tally_count.cnt; have := List.count_le_length (a := v) (l := l); omega⟩
theorem tally_count.take_succ {l : List Int} {x : Int} (x0 : 0 ≤ x) (hx : x < l.length) : l.take (x + 1).toNat = l.take x.toNat ++ [rd l x] := by
  have hlt : x.toNat < l.length := by omega
  rw [show (x + 1).toNat = x.toNat + 1 by omega, List.take_succ_eq_append_getElem hlt]
  simp [rd, List.getD_eq_getElem?_getD, hlt]
theorem tally_count.cnt_same {l : List Int} {x v : Int} (x0 : 0 ≤ x) (hx : x < l.length) (h : rd l x = v) : tally_count.cnt v (l.take (x + 1).toNat) = tally_count.cnt v (l.take x.toNat) + 1 := by
  rw [tally_count.take_succ x0 hx, h]
  simp [tally_count.cnt]
theorem tally_count.cnt_other {l : List Int} {x v : Int} (x0 : 0 ≤ x) (hx : x < l.length) (h : rd l x ≠ v) : tally_count.cnt v (l.take (x + 1).toNat) = tally_count.cnt v (l.take x.toNat) := by
  rw [tally_count.take_succ x0 hx]
  simp [tally_count.cnt, List.count_append, List.count_singleton, h]
def tally_count.Rel (w : World) (l : List Int) (x : Int) (wr : World) : Prop :=
  0 ≤ x ∧ x ≤ l.length ∧ Below w.heap.size w wr ∧ wr.heap[w.heap.size]? = some (.cells #[.int .i64 0, .int .i64 0, .int .i64 0] 161 (0, 0)) ∧
    wr.heap[w.heap.size + 1]? = some (.cells #[.int .i64 (tally_count.cnt 0 (l.take x.toNat)), .int .i64 (tally_count.cnt 1 (l.take x.toNat)), .int .i64 (tally_count.cnt 2 (l.take x.toNat))] 161 (0, 0))
theorem tally_count.calls (A0 : Option Addr) (c0 : Nat) (l0 : List Int) (w : World) (hr0 : Kd.C (Kd.int .i64) w A0 l0.length l0) (hc0 : l0.length ≤ c0) (hn : l0.length ≤ 1000000) :
    Calls Try.prog 147 #[.slice A0 l0.length c0] w fun e w' => e = .returned (.agg #[.int .i64 (tally_count.cnt 0 l0), .int .i64 (tally_count.cnt 1 l0), .int .i64 (tally_count.cnt 2 l0)]) ∧ Below w.heap.size w w' := by
  have HR := Sd.mk hr0
  have HC := Sd.mk hc0
  clear hr0 hc0
  go_enter Try.func147, Try.ntmps147
  go_wp2
  go_loopw [8] (fun i wr => ∃ x : Int, i = .int .i64 x ∧ Sd (tally_count.Rel w l0 x wr)) (fun i _ => l0.length - (intOf i).toNat)
  case atStart =>
    refine ⟨0, rfl, ⟨by omega, by omega, below_alloc (below_alloc (Below.refl _ w) _) _, blk_alloc (blk_new w _) _, ?_⟩⟩
    have := blk_new (w.alloc (.cells #[.int .i64 0, .int .i64 0, .int .i64 0] 161)) (.cells #[.int .i64 0, .int .i64 0, .int .i64 0] 161)
    simpa [tally_count.cnt] using this
  case round =>
    obtain ⟨x, rfl, HRel⟩ := hrel
    have x0 : 0 ≤ x := HRel.out.1
    have HBW := Sd.mk HRel.out.2.2.1
    have K0 := Sd.mk HRel.out.2.2.2.1
    have K1 := Sd.mk HRel.out.2.2.2.2
    have b0 := tally_count.cnt_le 0 (l0.take x.toNat)
    have b1 := tally_count.cnt_le 1 (l0.take x.toNat)
    have b2 := tally_count.cnt_le 2 (l0.take x.toNat)
    rw [List.length_take] at b0 b1 b2
    by_cases hl : x < l0.length
    · obtain ⟨ad, e, hx⟩ := Kd.at_int HR.out x x0 hl
      subst e
      have hx' : wr.cell? (ad.add x.toNat) = some (.int .i64 (rd l0 x)) := pw_cell_below HBW.out hx
      have hlb : decide (x < (l0.length : Int)) = true := decide_eq_true hl
      clear hx
      by_cases d1 : rd l0 x < 0
      · have HN := Sd.mk (show tally_count.Rel w l0 (x + 1) wr from ⟨by omega, by omega, HBW.out, K0.out, by rw [tally_count.cnt_other x0 hl (by omega), tally_count.cnt_other x0 hl (by omega), tally_count.cnt_other x0 hl (by omega)]; exact K1.out⟩)
        have d1b : decide (0 ≤ rd l0 x) = false := decide_eq_false (by omega)
        go_wp2
        go_roundw
        case rel => exact ⟨x + 1, rfl, HN⟩
        case measure => simp [intOf]; omega
      have d1b : decide (0 ≤ rd l0 x) = true := decide_eq_true (by omega)
      by_cases d2 : 3 ≤ rd l0 x
      · have HN := Sd.mk (show tally_count.Rel w l0 (x + 1) wr from ⟨by omega, by omega, HBW.out, K0.out, by rw [tally_count.cnt_other x0 hl (by omega), tally_count.cnt_other x0 hl (by omega), tally_count.cnt_other x0 hl (by omega)]; exact K1.out⟩)
        have d2b : decide (rd l0 x < 3) = false := decide_eq_false (by omega)
        go_wp2
        go_roundw
        case rel => exact ⟨x + 1, rfl, HN⟩
        case measure => simp [intOf]; omega
      have hv : rd l0 x = 0 ∨ rd l0 x = 1 ∨ rd l0 x = 2 := by omega
      clear d1 d1b d2
      have hc0 : wr.cell? ⟨w.heap.size + 1, 0, none⟩ = some (.int .i64 (tally_count.cnt 0 (l0.take x.toNat))) := (blk_cell K1.out 0).trans rfl
      have hc1 : wr.cell? ⟨w.heap.size + 1, 1, none⟩ = some (.int .i64 (tally_count.cnt 1 (l0.take x.toNat))) := (blk_cell K1.out 1).trans rfl
      have hc2 : wr.cell? ⟨w.heap.size + 1, 2, none⟩ = some (.int .i64 (tally_count.cnt 2 (l0.take x.toNat))) := (blk_cell K1.out 2).trans rfl
      have hf0 := blk_frozen K1.out 0
      have hf1 := blk_frozen K1.out 1
      have hf2 := blk_frozen K1.out 2
      have HS := Sd.mk (fun v (h : rd l0 x = v) => tally_count.cnt_same x0 hl h)
      have HO := Sd.mk (fun v (h : rd l0 x ≠ v) => tally_count.cnt_other x0 hl h)
      have far := Sd.mk (fun (i : Nat) (u : Value) => blk_far K0.out (p := ⟨w.heap.size + 1, i, none⟩) (by simp) u)
      have bel := Sd.mk (fun (i : Nat) (u : Value) => HBW.out.setCell (p := ⟨w.heap.size + 1, i, none⟩) (by simp) u)
      rcases hv with hv | hv | hv
      · rw [hv] at hx'
        go_wp2
        go_roundw
        case rel =>
          refine ⟨x + 1, rfl, ⟨by omega, by omega, bel.out 0 _, far.out 0 _, blk_put K1.out 0 _ ?_⟩⟩
          rw [HS.out 0 hv, HO.out 1 (by omega), HO.out 2 (by omega)]
          rfl
        case measure => simp [intOf]; omega
      · rw [hv] at hx'
        go_wp2
        go_roundw
        case rel =>
          refine ⟨x + 1, rfl, ⟨by omega, by omega, bel.out 1 _, far.out 1 _, blk_put K1.out 1 _ ?_⟩⟩
          rw [HS.out 1 hv, HO.out 0 (by omega), HO.out 2 (by omega)]
          rfl
        case measure => simp [intOf]; omega
      · rw [hv] at hx'
        go_wp2
        go_roundw
        case rel =>
          refine ⟨x + 1, rfl, ⟨by omega, by omega, bel.out 2 _, far.out 2 _, blk_put K1.out 2 _ ?_⟩⟩
          rw [HS.out 2 hv, HO.out 0 (by omega), HO.out 1 (by omega)]
          rfl
        case measure => simp [intOf]; omega
    · have hlb : decide (x < (l0.length : Int)) = false := decide_eq_false hl
      have e : l0.take x.toNat = l0 := List.take_of_length_le (by omega)
      rw [e] at K1
      have hc0 : wr.cell? ⟨w.heap.size + 1, 0, none⟩ = some (.int .i64 (tally_count.cnt 0 l0)) := (blk_cell K1.out 0).trans rfl
      have hc1 : wr.cell? ⟨w.heap.size + 1, 1, none⟩ = some (.int .i64 (tally_count.cnt 1 l0)) := (blk_cell K1.out 1).trans rfl
      have hc2 : wr.cell? ⟨w.heap.size + 1, 2, none⟩ = some (.int .i64 (tally_count.cnt 2 l0)) := (blk_cell K1.out 2).trans rfl
      have ha0 : wr.cell? ⟨w.heap.size, 0, none⟩ = some (.int .i64 0) := (blk_cell K0.out 0).trans rfl
      have ha1 : wr.cell? ⟨w.heap.size, 1, none⟩ = some (.int .i64 0) := (blk_cell K0.out 1).trans rfl
      have ha2 : wr.cell? ⟨w.heap.size, 2, none⟩ = some (.int .i64 0) := (blk_cell K0.out 2).trans rfl
      have hf0 := blk_frozen K0.out 0
      have hf1 := blk_frozen K0.out 1
      have hf2 := blk_frozen K0.out 2
      go_wp2
      refine bodyPost_ret (results_cell_row rfl _ _ w.heap.size 161 #[.int .i64 (tally_count.cnt 0 l0), .int .i64 (tally_count.cnt 1 l0), .int .i64 (tally_count.cnt 2 l0)] (0, 0) _ rfl (blk_put (blk_put (blk_put K0.out 0 _ rfl) 1 _ rfl) 2 _ rfl) Try.underlying161 rfl (by kernel_rfl)) rfl ?_
      exact ⟨rfl, ((HBW.out.setCell (p := ⟨w.heap.size, 0, none⟩) (Nat.le_refl _) _).setCell (p := ⟨w.heap.size, 1, none⟩) (Nat.le_refl _) _).setCell (p := ⟨w.heap.size, 2, none⟩) (Nat.le_refl _) _⟩
end Go.Proofs.Ythblnnboeikgcaa.B
