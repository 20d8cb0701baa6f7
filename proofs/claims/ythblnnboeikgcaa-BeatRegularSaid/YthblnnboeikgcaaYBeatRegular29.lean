import Derived.Test.YthblnnboeikgcaaYBeatRegular5
set_option maxHeartbeats 1000000
namespace Go.Proofs.Ythblnnboeikgcaa.B
open Go.RowKit Go.Proofs.YthblnnboeikgcaaW.PrintWords Go.Proofs.YthblnnboeikgcaaW.PrintLast Go.Proofs.YthblnnboeikgcaaW.PrintMore
attribute [local go_sem] max2_int min2_int max_two min_two max_three min_three max_four min_four   -- for this text's walks alone
set_option linter.unusedVariables false
set_option linter.unusedSimpArgs false
def tally_counted_first.sel (n0 n1 n2 v : Int) : Int := if v = 0 then n0 else if v = 1 then n1 else n2
theorem tally_counted_first.sel0 (n0 n1 n2 : Int) : tally_counted_first.sel n0 n1 n2 0 = n0 := by simp [tally_counted_first.sel]
theorem tally_counted_first.sel1 (n0 n1 n2 : Int) : tally_counted_first.sel n0 n1 n2 1 = n1 := by simp [tally_counted_first.sel]
theorem tally_counted_first.sel2 (n0 n1 n2 : Int) : tally_counted_first.sel n0 n1 n2 2 = n2 := by simp [tally_counted_first.sel]
def tally_counted_first.of (n0 n1 n2 least other : Int) : List Int → Int
  | [] => other
  | v :: r => if tally_counted_first.sel n0 n1 n2 v ≥ least then v else tally_counted_first.of n0 n1 n2 least other r
theorem tally_counted_first.calls (n0 n1 n2 least other : Int) (A0 : Option Addr) (c0 : Nat) (l0 : List Int) (w : World) (hr0 : Kd.C (Kd.int .i64) w A0 l0.length l0) (hc0 : l0.length ≤ c0) (hn : l0.length ≤ 1000000) (hm : ∀ x : Int, 0 ≤ x → x < l0.length → rd l0 x = 0 ∨ rd l0 x = 1 ∨ rd l0 x = 2) :
    Calls Try.prog 148 #[.agg #[.int .i64 n0, .int .i64 n1, .int .i64 n2], .int .i64 least, .int .i64 other, .slice A0 l0.length c0] w fun e w' => e = .returned (.int .i64 (tally_counted_first.of n0 n1 n2 least other l0)) ∧ Below w.heap.size w w' := by
  have HR := Sd.mk hr0
  have HC := Sd.mk hc0
  clear hr0 hc0
  go_enter Try.func148, Try.ntmps148
  go_wp2
  go_loopw [13] (fun i wr => ∃ x : Int, i = .int .i64 x ∧ 0 ≤ x ∧ Sd (tally_counted_first.of n0 n1 n2 least other l0 = tally_counted_first.of n0 n1 n2 least other (l0.drop x.toNat)) ∧ Sd (Below w.heap.size w wr) ∧ Sd (wr.heap[w.heap.size]? = some (.cells #[.int .i64 n0, .int .i64 n1, .int .i64 n2] 161 (0, 0)))) (fun i _ => l0.length - (intOf i).toNat)
  case atStart => exact ⟨0, rfl, by omega, ⟨rfl⟩, ⟨below_alloc (Below.refl _ w) _⟩, ⟨blk_new w _⟩⟩
  case round =>
    obtain ⟨x, rfl, x0, HO, HBW, K0⟩ := hrel
    by_cases hl : x < l0.length
    · obtain ⟨ad, e, hx⟩ := Kd.at_int HR.out x x0 hl
      subst e
      have hx' : wr.cell? (ad.add x.toNat) = some (.int .i64 (rd l0 x)) := pw_cell_below HBW.out hx
      have hlb : decide (x < (l0.length : Int)) = true := decide_eq_true hl
      clear hx
      have hlt : x.toNat < l0.length := by omega
      have hd : l0.drop x.toNat = rd l0 x :: l0.drop (x.toNat + 1) := by
        rw [List.drop_eq_getElem_cons hlt]
        simp [rd, List.getD_eq_getElem?_getD, hlt]
      have HD := Sd.mk (show tally_counted_first.of n0 n1 n2 least other l0 = if tally_counted_first.sel n0 n1 n2 (rd l0 x) ≥ least then rd l0 x else tally_counted_first.of n0 n1 n2 least other (l0.drop (x + 1).toNat) from by rw [HO.out, hd, show (x + 1).toNat = x.toNat + 1 by omega]; rfl)
      clear hd hlt
      have hc0 : wr.cell? ⟨w.heap.size, 0, none⟩ = some (.int .i64 n0) := (blk_cell K0.out 0).trans rfl
      have hc1 : wr.cell? ⟨w.heap.size, 1, none⟩ = some (.int .i64 n1) := (blk_cell K0.out 1).trans rfl
      have hc2 : wr.cell? ⟨w.heap.size, 2, none⟩ = some (.int .i64 n2) := (blk_cell K0.out 2).trans rfl
      have HM := hm x x0 hl
      clear hm
      rcases HM with hv | hv | hv
      · rw [hv] at hx' HD
        rw [tally_counted_first.sel0] at HD
        by_cases d : n0 ≥ least
        · have db : decide (least ≤ n0) = true := decide_eq_true d
          clear d
          go_wp2
          go_ret
          exact ⟨by rw [HD.out, if_pos (of_decide_eq_true db)]; rfl, HBW.out⟩
        · have db : decide (least ≤ n0) = false := decide_eq_false d
          clear d
          go_wp2
          go_roundw
          case rel => exact ⟨x + 1, rfl, by omega, ⟨by rw [HD.out, if_neg (of_decide_eq_false db)]⟩, HBW, K0⟩
          case measure => simp [intOf]; omega
      · rw [hv] at hx' HD
        rw [tally_counted_first.sel1] at HD
        by_cases d : n1 ≥ least
        · have db : decide (least ≤ n1) = true := decide_eq_true d
          clear d
          go_wp2
          go_ret
          exact ⟨by rw [HD.out, if_pos (of_decide_eq_true db)]; rfl, HBW.out⟩
        · have db : decide (least ≤ n1) = false := decide_eq_false d
          clear d
          go_wp2
          go_roundw
          case rel => exact ⟨x + 1, rfl, by omega, ⟨by rw [HD.out, if_neg (of_decide_eq_false db)]⟩, HBW, K0⟩
          case measure => simp [intOf]; omega
      · rw [hv] at hx' HD
        rw [tally_counted_first.sel2] at HD
        by_cases d : n2 ≥ least
        · have db : decide (least ≤ n2) = true := decide_eq_true d
          clear d
          go_wp2
          go_ret
          exact ⟨by rw [HD.out, if_pos (of_decide_eq_true db)]; rfl, HBW.out⟩
        · have db : decide (least ≤ n2) = false := decide_eq_false d
          clear d
          go_wp2
          go_roundw
          case rel => exact ⟨x + 1, rfl, by omega, ⟨by rw [HD.out, if_neg (of_decide_eq_false db)]⟩, HBW, K0⟩
          case measure => simp [intOf]; omega
    · have hlb : decide (x < (l0.length : Int)) = false := decide_eq_false hl
      have HE := Sd.mk (show tally_counted_first.of n0 n1 n2 least other l0 = other from by rw [HO.out, List.drop_eq_nil_of_le (by omega)]; rfl)
      go_wp2
      go_ret
      exact ⟨by rw [HE.out]; rfl, HBW.out⟩
end Go.Proofs.Ythblnnboeikgcaa.B
