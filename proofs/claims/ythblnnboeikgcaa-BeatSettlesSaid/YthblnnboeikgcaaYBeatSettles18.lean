import Derived.Test.YthblnnboeikgcaaYBeatSettles17
import Derived.Test.YthblnnboeikgcaaYBeatSettles11
set_option maxHeartbeats 1000000
set_option maxRecDepth 100000
section
set_option linter.unusedVariables false
set_option linter.unusedSimpArgs false
namespace Go.Proofs.Ythblnnboeikgcaa.ConfLib
open Go.RowKit Go.Proofs.Ythblnnboeikgcaa.B Go.Proofs.YthblnnboeikgcaaW.PrintWords Go.Proofs.YthblnnboeikgcaaW.PrintMore
def rounds (n f d p r dr o s m fr : Int) (t : List Int) : Int := if plain n f d p r dr o s m fr t = 0 then 3 * (f + 1) else 0
def length (n f d p r dr o s m fr : Int) (t : List Int) : Int := if plain n f d p r dr o s m fr t = 0 then 3 * (f + 1) * d else 0
def bits (n f d p r dr o s m fr : Int) (t : List Int) : Int := if plain n f d p r dr o s m fr t = 0 then 8 + n else 0
theorem plain_facts {n f d p r dr o s m fr : Int} {t : List Int} (h : plain n f d p r dr o s m fr t = 0) : 4 ≤ n ∧ n ≤ 13 ∧ 0 ≤ f ∧ f ≤ 4 ∧ 3 * f < n ∧ 1 ≤ d ∧ d ≤ 4 ∧ 6 * (f + 1) * d + 1 ≤ p ∧ p ≤ 400 := by
  obtain ⟨h1, h2, h3, h4⟩ := plain_zero.1 h
  unfold nodesOk at h1
  unfold delayOk at h2
  unfold numbersOk at h3
  exact ⟨h1.1, h1.2.1, h1.2.2.1, h1.2.2.2.1, h1.2.2.2.2, h2.1, h2.2, h3.1, h3.2.1⟩
theorem mul_d {f d : Int} (hf : 0 ≤ f ∧ f ≤ 4) (hd : 1 ≤ d ∧ d ≤ 4) : 3 ≤ 3 * (f + 1) * d ∧ 3 * (f + 1) * d ≤ 60 ∧ 6 * (f + 1) * d = 2 * (3 * (f + 1) * d) := by
  have hd2 : d = 1 ∨ d = 2 ∨ d = 3 ∨ d = 4 := by omega
  rcases hd2 with rfl | rfl | rfl | rfl <;> omega
theorem w3 {f : Int} (hf : 0 ≤ f ∧ f ≤ 4) : wrap64 (3 * wrap64 (f + 1)) = 3 * (f + 1) := by
  rw [wrap_small (n := f + 1) (by omega) (by omega), wrap_small (by omega) (by omega)]
theorem rounds_at (n f d p r dr o s m fr : Int) (t : List Int) {k : Nat} (hk : 10 < k) : conf_Rounds.f k n f d p r dr o s m fr t = some (rounds n f d p r dr o s m fr t) := by
  unfold conf_Rounds.f rounds
  rw [plain_at n f d p r dr o s m fr t hk]
  simp only [Option.bind_some]
  by_cases h : plain n f d p r dr o s m fr t = 0
  · have hb := plain_facts h
    rw [if_pos h, if_pos h, w3 (by omega)]
  · rw [if_neg h, if_neg h]
theorem length_at (n f d p r dr o s m fr : Int) (t : List Int) {k : Nat} (hk : 10 < k) : conf_Length.f k n f d p r dr o s m fr t = some (length n f d p r dr o s m fr t) := by
  unfold conf_Length.f length
  rw [rounds_at n f d p r dr o s m fr t hk]
  simp only [Option.bind_some]
  unfold rounds
  by_cases h : plain n f d p r dr o s m fr t = 0
  · have hb := plain_facts h
    have hm := mul_d (f := f) (d := d) (by omega) (by omega)
    have hx : mx d 0 = d := by unfold mx; rw [if_neg (by omega)]
    rw [if_pos h, if_pos h, hx, wrap_small (by omega) (by omega)]
  · rw [if_neg h, if_neg h, Int.zero_mul, wrap_small (by omega) (by omega)]
theorem ref_length_at (n f d p r dr o s m fr : Int) (t : List Int) {k : Nat} (hk : 700 < k) : r03Length.f k n f d p r dr o s m fr t = some (length n f d p r dr o s m fr t) := by
  unfold r03Length.f length
  rw [ref_plain_at n f d p r dr o s m fr t hk]
  simp only [Option.bind_some]
  by_cases h : plain n f d p r dr o s m fr t = 0
  · have hb := plain_facts h
    have hm := mul_d (f := f) (d := d) (by omega) (by omega)
    rw [if_pos h, if_pos h, w3 (by omega), wrap_small (by omega) (by omega)]
  · rw [if_neg h, if_neg h]
end Go.Proofs.Ythblnnboeikgcaa.ConfLib
end
section
namespace Go.Proofs.Ythblnnboeikgcaa.B
open Go.RowKit Go.Proofs.YthblnnboeikgcaaW.PrintWords Go.Proofs.YthblnnboeikgcaaW.PrintLast Go.Proofs.YthblnnboeikgcaaW.PrintMore
attribute [local go_sem] max2_int min2_int max_two min_two max_three min_three max_four min_four   -- for this text's walks alone
set_option linter.unusedVariables false
set_option linter.unusedSimpArgs false
def tally_count.cnt (v : Int) (l : List Int) : Int := (l.count v : Nat)
theorem tally_count.cnt_le (v : Int) (l : List Int) : 0 ≤ tally_count.cnt v l ∧ tally_count.cnt v l ≤ l.length := ⟨by unfold tally_count.cnt; omega, by unfold tally_count.cnt; have := List.count_le_length (a := v) (l := l); omega⟩
theorem tally_count.take_succ {l : List Int} {x : Int} (x0 : 0 ≤ x) (hx : x < l.length) : l.take (x + 1).toNat = l.take x.toNat ++ [rd l x] := by
  have hlt : x.toNat < l.length := by omega
  rw [show (x + 1).toNat = x.toNat + 1 by omega, List.take_succ_eq_append_getElem hlt]
  simp [rd, List.getD_eq_getElem?_getD, hlt]
theorem tally_count.cnt_same {l : List Int} {x v : Int} (x0 : 0 ≤ x) (hx : x < l.length) (h : rd l x = v) : tally_count.cnt v (l.take (x + 1).toNat) = tally_count.cnt v (l.take x.toNat) + 1 := by
  rw [tally_count.take_succ x0 hx, h]
  simp [tally_count.cnt]
theorem tally_count.cnt_other {l : List Int} {x v : Int} (x0 : 0 ≤ x) (hx : x < l.length) (h : rd l x ≠ v) : tally_count.cnt v (l.take (x + 1).toNat) = tally_count.cnt v (l.take x.toNat) := by
  rw [tally_count.take_succ x0 hx]
  simp [tally_count.cnt, List.count_append, List.count_singleton, h]
def tally_count.Rel (w : World) (l : List Int) (x : Int) (wr : World) : Prop :=
  0 ≤ x ∧ x ≤ l.length ∧ Below w.heap.size w wr ∧ wr.heap[w.heap.size]? = some (.cells #[.int .i64 0, .int .i64 0, .int .i64 0] 161 (0, 0)) ∧
    wr.heap[w.heap.size + 1]? = some (.cells #[.int .i64 (tally_count.cnt 0 (l.take x.toNat)), .int .i64 (tally_count.cnt 1 (l.take x.toNat)), .int .i64 (tally_count.cnt 2 (l.take x.toNat))] 161 (0, 0))
theorem tally_count.calls (A0 : Option Addr) (c0 : Nat) (l0 : List Int) (w : World) (hr0 : Kd.C (Kd.int .i64) w A0 l0.length l0) (hc0 : l0.length ≤ c0) (hn : l0.length ≤ 1000000) :
    Calls Try.prog 147 #[.slice A0 l0.length c0] w fun e w' => e = .returned (.agg #[.int .i64 (tally_count.cnt 0 l0), .int .i64 (tally_count.cnt 1 l0), .int .i64 (tally_count.cnt 2 l0)]) ∧ Below w.heap.size w w' := by
  have HR := Sd.mk hr0
  have HC := Sd.mk hc0
  clear hr0 hc0
  go_enter Try.func147, Try.ntmps147
  go_wp2
  go_loopw [8] (fun i wr => ∃ x : Int, i = .int .i64 x ∧ Sd (tally_count.Rel w l0 x wr)) (fun i _ => l0.length - (intOf i).toNat)
  case atStart =>
    refine ⟨0, rfl, ⟨by omega, by omega, below_alloc (below_alloc (Below.refl _ w) _) _, blk_alloc (blk_new w _) _, ?_⟩⟩
    have := blk_new (w.alloc (.cells #[.int .i64 0, .int .i64 0, .int .i64 0] 161)) (.cells #[.int .i64 0, .int .i64 0, .int .i64 0] 161)
    simpa [tally_count.cnt] using this
  case round =>
    obtain ⟨x, rfl, HRel⟩ := hrel
    have x0 : 0 ≤ x := HRel.out.1
    have HBW := Sd.mk HRel.out.2.2.1
    have K0 := Sd.mk HRel.out.2.2.2.1
    have K1 := Sd.mk HRel.out.2.2.2.2
    have b0 := tally_count.cnt_le 0 (l0.take x.toNat)
    have b1 := tally_count.cnt_le 1 (l0.take x.toNat)
    have b2 := tally_count.cnt_le 2 (l0.take x.toNat)
    rw [List.length_take] at b0 b1 b2
    by_cases hl : x < l0.length
    · obtain ⟨ad, e, hx⟩ := Kd.at_int HR.out x x0 hl
      subst e
      have hx' : wr.cell? (ad.add x.toNat) = some (.int .i64 (rd l0 x)) := pw_cell_below HBW.out hx
      have hlb : decide (x < (l0.length : Int)) = true := decide_eq_true hl
      clear hx
      by_cases d1 : rd l0 x < 0
      · have HN := Sd.mk (show tally_count.Rel w l0 (x + 1) wr from ⟨by omega, by omega, HBW.out, K0.out, by rw [tally_count.cnt_other x0 hl (by omega), tally_count.cnt_other x0 hl (by omega), tally_count.cnt_other x0 hl (by omega)]; exact K1.out⟩)
        have d1b : decide (0 ≤ rd l0 x) = false := decide_eq_false (by omega)
        go_wp2
        go_roundw
        case rel => exact ⟨x + 1, rfl, HN⟩
        case measure => simp [intOf]; omega
      have d1b : decide (0 ≤ rd l0 x) = true := decide_eq_true (by omega)
      by_cases d2 : 3 ≤ rd l0 x
      · have HN := Sd.mk (show tally_count.Rel w l0 (x + 1) wr from ⟨by omega, by omega, HBW.out, K0.out, by rw [tally_count.cnt_other x0 hl (by omega), tally_count.cnt_other x0 hl (by omega), tally_count.cnt_other x0 hl (by omega)]; exact K1.out⟩)
        have d2b : decide (rd l0 x < 3) = false := decide_eq_false (by omega)
        go_wp2
        go_roundw
        case rel => exact ⟨x + 1, rfl, HN⟩
        case measure => simp [intOf]; omega
      have hv : rd l0 x = 0 ∨ rd l0 x = 1 ∨ rd l0 x = 2 := by omega
      clear d1 d1b d2
      have hc0 : wr.cell? ⟨w.heap.size + 1, 0, none⟩ = some (.int .i64 (tally_count.cnt 0 (l0.take x.toNat))) := (blk_cell K1.out 0).trans rfl
      have hc1 : wr.cell? ⟨w.heap.size + 1, 1, none⟩ = some (.int .i64 (tally_count.cnt 1 (l0.take x.toNat))) := (blk_cell K1.out 1).trans rfl
      have hc2 : wr.cell? ⟨w.heap.size + 1, 2, none⟩ = some (.int .i64 (tally_count.cnt 2 (l0.take x.toNat))) := (blk_cell K1.out 2).trans rfl
      have hf0 := blk_frozen K1.out 0
      have hf1 := blk_frozen K1.out 1
      have hf2 := blk_frozen K1.out 2
      have HS := Sd.mk (fun v (h : rd l0 x = v) => tally_count.cnt_same x0 hl h)
      have HO := Sd.mk (fun v (h : rd l0 x ≠ v) => tally_count.cnt_other x0 hl h)
      have far := Sd.mk (fun (i : Nat) (u : Value) => blk_far K0.out (p := ⟨w.heap.size + 1, i, none⟩) (by simp) u)
      have bel := Sd.mk (fun (i : Nat) (u : Value) => HBW.out.setCell (p := ⟨w.heap.size + 1, i, none⟩) (by simp) u)
      rcases hv with hv | hv | hv
      · rw [hv] at hx'
        go_wp2
        go_roundw
        case rel =>
          refine ⟨x + 1, rfl, ⟨by omega, by omega, bel.out 0 _, far.out 0 _, blk_put K1.out 0 _ ?_⟩⟩
          rw [HS.out 0 hv, HO.out 1 (by omega), HO.out 2 (by omega)]
          rfl
        case measure => simp [intOf]; omega
      · rw [hv] at hx'
        go_wp2
        go_roundw
        case rel =>
          refine ⟨x + 1, rfl, ⟨by omega, by omega, bel.out 1 _, far.out 1 _, blk_put K1.out 1 _ ?_⟩⟩
          rw [HS.out 1 hv, HO.out 0 (by omega), HO.out 2 (by omega)]
          rfl
        case measure => simp [intOf]; omega
      · rw [hv] at hx'
        go_wp2
        go_roundw
        case rel =>
          refine ⟨x + 1, rfl, ⟨by omega, by omega, bel.out 2 _, far.out 2 _, blk_put K1.out 2 _ ?_⟩⟩
          rw [HS.out 2 hv, HO.out 0 (by omega), HO.out 1 (by omega)]
          rfl
        case measure => simp [intOf]; omega
    · have hlb : decide (x < (l0.length : Int)) = false := decide_eq_false hl
      have e : l0.take x.toNat = l0 := List.take_of_length_le (by omega)
      rw [e] at K1
      have hc0 : wr.cell? ⟨w.heap.size + 1, 0, none⟩ = some (.int .i64 (tally_count.cnt 0 l0)) := (blk_cell K1.out 0).trans rfl
      have hc1 : wr.cell? ⟨w.heap.size + 1, 1, none⟩ = some (.int .i64 (tally_count.cnt 1 l0)) := (blk_cell K1.out 1).trans rfl
      have hc2 : wr.cell? ⟨w.heap.size + 1, 2, none⟩ = some (.int .i64 (tally_count.cnt 2 l0)) := (blk_cell K1.out 2).trans rfl
      have ha0 : wr.cell? ⟨w.heap.size, 0, none⟩ = some (.int .i64 0) := (blk_cell K0.out 0).trans rfl
      have ha1 : wr.cell? ⟨w.heap.size, 1, none⟩ = some (.int .i64 0) := (blk_cell K0.out 1).trans rfl
      have ha2 : wr.cell? ⟨w.heap.size, 2, none⟩ = some (.int .i64 0) := (blk_cell K0.out 2).trans rfl
      have hf0 := blk_frozen K0.out 0
      have hf1 := blk_frozen K0.out 1
      have hf2 := blk_frozen K0.out 2
      go_wp2
      refine bodyPost_ret (results_cell_row rfl _ _ w.heap.size 161 #[.int .i64 (tally_count.cnt 0 l0), .int .i64 (tally_count.cnt 1 l0), .int .i64 (tally_count.cnt 2 l0)] (0, 0) _ rfl (blk_put (blk_put (blk_put K0.out 0 _ rfl) 1 _ rfl) 2 _ rfl) Try.underlying161 rfl (by kernel_rfl)) rfl ?_
      exact ⟨rfl, ((HBW.out.setCell (p := ⟨w.heap.size, 0, none⟩) (Nat.le_refl _) _).setCell (p := ⟨w.heap.size, 1, none⟩) (Nat.le_refl _) _).setCell (p := ⟨w.heap.size, 2, none⟩) (Nat.le_refl _) _⟩
end Go.Proofs.Ythblnnboeikgcaa.B
end
section
namespace Go.Proofs.Ythblnnboeikgcaa.B
open Go.RowKit Go.Proofs.YthblnnboeikgcaaW.PrintWords Go.Proofs.YthblnnboeikgcaaW.PrintLast Go.Proofs.YthblnnboeikgcaaW.PrintMore
attribute [local go_sem] max2_int min2_int max_two min_two max_three min_three max_four min_four   -- for this text's walks alone
set_option linter.unusedVariables false
set_option linter.unusedSimpArgs false
theorem tally_Count.idx0 (a b c : Int) (w : World) : (Instr.index 161 (.agg #[.int .i64 a, .int .i64 b, .int .i64 c]) (.int .i64 0)).run Try.prog w = .ok (.int .i64 a) w := by kernel_rfl
theorem tally_Count.idx1 (a b c : Int) (w : World) : (Instr.index 161 (.agg #[.int .i64 a, .int .i64 b, .int .i64 c]) (.int .i64 1)).run Try.prog w = .ok (.int .i64 b) w := by kernel_rfl
theorem tally_Count.idx2 (a b c : Int) (w : World) : (Instr.index 161 (.agg #[.int .i64 a, .int .i64 b, .int .i64 c]) (.int .i64 2)).run Try.prog w = .ok (.int .i64 c) w := by kernel_rfl
def tally_Count.f (a0 : Int) (l1 : List Int) : Option (Int) := if a0 < 0 then some 0 else (if a0 ≥ 3 then some 0 else (if l1.length ≤ 1000000 then some (tally_count.cnt a0 l1) else none))
theorem tally_Count.calls (a0 : Int) (A1 : Option Addr) (c1 : Nat) (l1 : List Int) (r : Int) (w : World) (hr1 : Kd.C (Kd.int .i64) w A1 l1.length l1) (hc1 : l1.length ≤ c1) (h : tally_Count.f a0 l1 = some r) :
    Calls Try.prog 150 #[.int .i64 a0, .slice A1 l1.length c1] w fun e w' => e = .returned (.int .i64 r) ∧ Below w.heap.size w w' := by
  have HR := Sd.mk hr1
  have HC := Sd.mk hc1
  clear hr1 hc1
  unfold tally_Count.f at h
  by_cases d1 : a0 < 0
  · rw [if_pos d1] at h
    obtain rfl := Option.some.inj h
    have d1b : decide (a0 < 0) = true := decide_eq_true d1
    go_enter Try.func150, Try.ntmps150
    go_wp2
    go_ret
    exact ⟨rfl, Below.refl _ _⟩
  by_cases d2 : a0 ≥ 3
  · rw [if_neg d1, if_pos d2] at h
    obtain rfl := Option.some.inj h
    have d1b : decide (a0 < 0) = false := decide_eq_false d1
    have d2b : decide (3 ≤ a0) = true := decide_eq_true d2
    go_enter Try.func150, Try.ntmps150
    go_wp2
    go_ret
    exact ⟨rfl, Below.refl _ _⟩
  by_cases d3 : l1.length ≤ 1000000
  · rw [if_neg d1, if_neg d2, if_pos d3] at h
    obtain rfl := Option.some.inj h
    have hv : a0 = 0 ∨ a0 = 1 ∨ a0 = 2 := by omega
    clear d1 d2 h
    have hi0 := tally_Count.idx0 (tally_count.cnt 0 l1) (tally_count.cnt 1 l1) (tally_count.cnt 2 l1)
    have hi1 := tally_Count.idx1 (tally_count.cnt 0 l1) (tally_count.cnt 1 l1) (tally_count.cnt 2 l1)
    have hi2 := tally_Count.idx2 (tally_count.cnt 0 l1) (tally_count.cnt 1 l1) (tally_count.cnt 2 l1)
    go_enter Try.func150, Try.ntmps150
    rcases hv with rfl | rfl | rfl
    all_goals
      go_wp2_with (go_at_call 147; refine (tally_count.calls A1 c1 l1 _ HR.out HC.out d3).mono ?_; rintro e w1 ⟨rfl, hb1⟩)
      go_ret
      exact ⟨rfl, hb1⟩
  · rw [if_neg d1, if_neg d2, if_neg d3] at h
    cases h
end Go.Proofs.Ythblnnboeikgcaa.B
end
