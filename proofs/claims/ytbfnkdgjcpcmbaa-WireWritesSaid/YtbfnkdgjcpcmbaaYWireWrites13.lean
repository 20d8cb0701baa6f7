import Derived.Test.YtbfnkdgjcpcmbaaYWireWrites12
set_option maxHeartbeats 1000000
namespace Go.Proofs.Ytbfnkdgjcpcmbaa.X
open Go.RowKit Go.Proofs.YtbfnkdgjcpcmbaaW.PrintWords Go.Proofs.YtbfnkdgjcpcmbaaW.PrintLast Go.Proofs.YtbfnkdgjcpcmbaaW.PrintMore
attribute [local go_sem] max2_int min2_int max_two min_two max_three min_three max_four min_four   -- for this text's walks alone
set_option linter.unusedVariables false
set_option linter.unusedSimpArgs false
def conf_table.ok (n : Int) (l : List Int) : Bool := l.all (fun x => decide (0 ≤ x) && decide (x < n)) && (List.range n.toNat).all (fun j => l.contains (j : Int))
def conf_table.f (a0_0 : Int) (a0_1 : Int) (a0_2 : Int) (a0_3 : Int) (a0_4 : Int) (a0_5 : Int) (a0_6 : Int) (a0_7 : Int) (a0_8 : Int) (a0_9 : Int) (l0_10 : List Int) : Option (Bool) :=
  if 1 ≤ (l0_10.length : Int) then (if (l0_10.length : Int) ≤ 32 then (if 0 ≤ a0_0 then (if a0_0 ≤ 13 then some (conf_table.ok a0_0 l0_10) else none) else none) else some false) else some false
def conf_table.Rel (w1 : World) (n : Int) (l : List Int) (x : Int) (wr : World) : Prop :=
  0 ≤ x ∧ x ≤ l.length ∧ Below w1.heap.size w1 wr ∧ (∃ cs : List Int, cs.length = 13 ∧ wr.heap[w1.heap.size]? = some (.cells (cs.map (Value.int .i64)).toArray 97 (0, 0)) ∧
    (∀ j, j < 13 → 0 ≤ cs.getD j 0 ∧ cs.getD j 0 ≤ x ∧ (cs.getD j 0 = 0 ↔ (j : Int) ∉ l.take x.toNat))) ∧ (∀ y, y ∈ l.take x.toNat → 0 ≤ y ∧ y < n)
theorem conf_table.start (w1 : World) (n : Int) (l : List Int) : conf_table.Rel w1 n l 0 (w1.alloc (.cells #[.int .i64 0, .int .i64 0, .int .i64 0, .int .i64 0, .int .i64 0, .int .i64 0, .int .i64 0, .int .i64 0, .int .i64 0, .int .i64 0, .int .i64 0, .int .i64 0, .int .i64 0] 97)) := by
  refine ⟨by omega, by omega, below_alloc (Below.refl _ _) _, ⟨[0, 0, 0, 0, 0, 0, 0, 0, 0, 0, 0, 0, 0], rfl, blk_new w1 _, fun j hj => ?_⟩, by simp⟩
  have e : ∀ j, j < 13 → ([0, 0, 0, 0, 0, 0, 0, 0, 0, 0, 0, 0, 0] : List Int).getD j 0 = 0 := by decide
  rw [e j hj]
  simp
theorem conf_table.step {w1 wr : World} {n : Int} {l : List Int} {x : Int} (h : conf_table.Rel w1 n l x wr) (hx : x < l.length) (h0 : 0 ≤ rd l x) (h1 : rd l x < n) (hn : n ≤ 13) :
    ∃ c : Int, 0 ≤ c ∧ c ≤ x ∧ wr.cell? ⟨w1.heap.size, (rd l x).toNat, none⟩ = some (.int .i64 c) ∧ wr.frozen? ⟨w1.heap.size, (rd l x).toNat, none⟩ = false ∧
      conf_table.Rel w1 n l (x + 1) (wr.setCell ⟨w1.heap.size, (rd l x).toNat, none⟩ (.int .i64 (c + 1))) := by
  obtain ⟨x0, x1, hbw, ⟨cs, hcs, hblk, hown⟩, hall⟩ := h
  have hk : (rd l x).toNat < 13 := by omega
  have hlt : x.toNat < l.length := by omega
  have htake : l.take (x + 1).toNat = l.take x.toNat ++ [rd l x] := by
    rw [show (x + 1).toNat = x.toNat + 1 by omega, List.take_succ_eq_append_getElem hlt]
    simp [rd, List.getD_eq_getElem?_getD, hlt]
  refine ⟨cs.getD (rd l x).toNat 0, (hown _ hk).1, (hown _ hk).2.1, ?_, blk_frozen hblk _, ?_⟩
  · rw [blk_cell hblk]
    simp [List.getD_eq_getElem?_getD, hcs, hk]
  · refine ⟨by omega, by omega, hbw.setCell (p := ⟨w1.heap.size, (rd l x).toNat, none⟩) (Nat.le_refl _) _, ⟨cs.set (rd l x).toNat (cs.getD (rd l x).toNat 0 + 1), by simpa using hcs, ?_, fun j hj => ?_⟩, fun y hy => ?_⟩
    · refine blk_put hblk _ _ ?_
      simp [List.map_set]
    · rw [htake]
      by_cases e : j = (rd l x).toNat
      · subst e
        have e2 : (cs.set (rd l x).toNat (cs.getD (rd l x).toNat 0 + 1)).getD (rd l x).toNat 0 = cs.getD (rd l x).toNat 0 + 1 := by
          simp [List.getD_eq_getElem?_getD, hcs, hk]
        rw [e2]
        have := hown _ hk
        refine ⟨by omega, by omega, ⟨fun h => by omega, fun h => absurd (List.mem_append_right _ (List.mem_singleton.2 ?_)) h⟩⟩
        omega
      · have e2 : (cs.set (rd l x).toNat (cs.getD (rd l x).toNat 0 + 1)).getD j 0 = cs.getD j 0 := by
          simp only [List.getD_eq_getElem?_getD]
          rw [List.getElem?_set_ne (Ne.symm e)]
        rw [e2]
        have := hown _ hj
        refine ⟨this.1, by omega, ?_⟩
        rw [this.2.2, List.mem_append, List.mem_singleton]
        constructor
        · intro h h2
          rcases h2 with h2 | h2
          · exact h h2
          · omega
        · exact fun h h2 => h (.inl h2)
    · rw [htake, List.mem_append, List.mem_singleton] at hy
      rcases hy with hy | rfl
      · exact hall y hy
      · exact ⟨h0, h1⟩
theorem conf_table.fin {w1 wr : World} {n : Int} {l : List Int} {x : Int} (h : conf_table.Rel w1 n l x wr) (hx : ¬ x < l.length) :
    ∃ cs : List Int, cs.length = 13 ∧ (∀ y : Int, 0 ≤ y → y < 13 → wr.cell? ⟨w1.heap.size, y.toNat, none⟩ = some (.int .i64 (rd cs y))) ∧ (∀ y : Int, 0 ≤ y → y < 13 → (rd cs y = 0 ↔ y ∉ l)) ∧ (∀ y ∈ l, 0 ≤ y ∧ y < n) := by
  obtain ⟨x0, x1, hbw, ⟨cs, hcs, hblk, hown⟩, hall⟩ := h
  have e : l.take x.toNat = l := List.take_of_length_le (by omega)
  rw [e] at hown hall
  refine ⟨cs, hcs, fun y h0 h1 => ?_, fun y h0 h1 => ?_, hall⟩
  · rw [blk_cell hblk]
    simp [rd, List.getD_eq_getElem?_getD, hcs, show y.toNat < 13 by omega]
  · have := (hown y.toNat (by omega)).2.2
    rw [show ((y.toNat : Nat) : Int) = y by omega] at this
    exact this
theorem conf_table.bad {n : Int} {l : List Int} {x : Int} (x0 : 0 ≤ x) (hx : x < l.length) (h : rd l x < 0 ∨ n ≤ rd l x) : conf_table.ok n l = false := by
  have hm : rd l x ∈ l := by
    have hlt : x.toNat < l.length := by omega
    simp only [rd, List.getD_eq_getElem?_getD, List.getElem?_eq_getElem hlt, Option.getD_some]
    exact List.getElem_mem _
  unfold conf_table.ok
  rw [Bool.and_eq_false_iff]
  left
  rw [List.all_eq_false]
  exact ⟨_, hm, by simp; omega⟩
theorem conf_table.lacks {n : Int} {l : List Int} {y : Int} (h0 : 0 ≤ y) (h1 : y < n) (h : y ∉ l) : conf_table.ok n l = false := by
  unfold conf_table.ok
  rw [Bool.and_eq_false_iff]
  right
  rw [List.all_eq_false]
  refine ⟨y.toNat, by simp; omega, ?_⟩
  rw [show ((y.toNat : Nat) : Int) = y by omega]
  simpa using h
theorem conf_table.good {n : Int} {l : List Int} (h : ∀ y ∈ l, 0 ≤ y ∧ y < n) (h2 : ∀ y : Int, 0 ≤ y → y < n → y ∈ l) : conf_table.ok n l = true := by
  unfold conf_table.ok
  rw [Bool.and_eq_true, List.all_eq_true, List.all_eq_true]
  refine ⟨fun y hy => by simpa using h y hy, fun j hj => ?_⟩
  simp only [List.mem_range] at hj
  simpa using h2 j (by omega) (by omega)
theorem conf_table.calls (a0_0 : Int) (a0_1 : Int) (a0_2 : Int) (a0_3 : Int) (a0_4 : Int) (a0_5 : Int) (a0_6 : Int) (a0_7 : Int) (a0_8 : Int) (a0_9 : Int) (A0_10 : Option Addr) (c0_10 : Nat) (l0_10 : List Int) (r : Bool) (w : World) (hr0_10 : Kd.C (Kd.int .i64) w A0_10 l0_10.length l0_10) (hc0_10 : l0_10.length ≤ c0_10) (h : conf_table.f a0_0 a0_1 a0_2 a0_3 a0_4 a0_5 a0_6 a0_7 a0_8 a0_9 l0_10 = some r) :
    Calls Try.prog 62 #[.agg #[.int .i64 a0_0, .int .i64 a0_1, .int .i64 a0_2, .int .i64 a0_3, .int .i64 a0_4, .int .i64 a0_5, .int .i64 a0_6, .int .i64 a0_7, .int .i64 a0_8, .int .i64 a0_9, .slice A0_10 l0_10.length c0_10]] w fun e w' => e = .returned (.bool r) ∧ Below w.heap.size w w' := by
  have hu42 := Try.underlying24
  by_cases c1 : 1 ≤ (l0_10.length : Int)
  case neg =>
    simp only [conf_table.f, if_neg c1, Option.some.injEq] at h
    subst h
    have hs : conf_span_has.f 1 32 (l0_10.length : Int) = some false := by
      simp only [conf_span_has.f]
      rw [if_neg (by omega)]
    go_enter Try.func62, Try.ntmps62
    go_wp2_with (go_at_call 60; refine (conf_span_has.calls 1 32 _ false _ hs).mono ?_; rintro e w1 ⟨rfl, hb1⟩)
    go_ret
    exact ⟨rfl, below_then (below_alloc (below_alloc (Below.refl _ w) _) _) (by simp; omega) hb1⟩
  by_cases c2 : (l0_10.length : Int) ≤ 32
  case neg =>
    simp only [conf_table.f, if_pos c1, if_neg c2, Option.some.injEq] at h
    subst h
    have hs : conf_span_has.f 1 32 (l0_10.length : Int) = some false := by
      simp only [conf_span_has.f]
      rw [if_pos (by omega), decide_eq_false c2]
    go_enter Try.func62, Try.ntmps62
    go_wp2_with (go_at_call 60; refine (conf_span_has.calls 1 32 _ false _ hs).mono ?_; rintro e w1 ⟨rfl, hb1⟩)
    go_ret
    exact ⟨rfl, below_then (below_alloc (below_alloc (Below.refl _ w) _) _) (by simp; omega) hb1⟩
  have hs : conf_span_has.f 1 32 (l0_10.length : Int) = some true := by
    simp [conf_span_has.f, c1, c2]
  simp only [conf_table.f, if_pos c1, if_pos c2] at h
  by_cases c3 : 0 ≤ a0_0
  case neg => simp [if_neg c3] at h
  by_cases c4 : a0_0 ≤ 13
  case neg => simp [if_neg c4] at h
  rw [if_pos c3, if_pos c4] at h
  obtain ⟨nn, rfl⟩ := Int.eq_ofNat_of_zero_le c3
  obtain rfl := Option.some.inj h
  have HR := Sd.mk hr0_10
  have HC := Sd.mk hc0_10
  clear hr0_10 hc0_10
  have c2b : l0_10.length ≤ 9223372036854775807 := by omega
  go_enter Try.func62, Try.ntmps62
  go_wp2_with (go_at_call 60; refine (conf_span_has.calls 1 32 _ true _ hs).mono ?_; rintro e w1 ⟨rfl, hb1⟩; have K0 := Sd.mk (blk_below (blk_alloc (blk_new w _) _) hb1); have hc10 : w1.cell? ⟨w.heap.size, 10, none⟩ = some (.slice A0_10 l0_10.length c0_10) := (blk_cell K0.out 10).trans rfl; have hc00 : w1.cell? ⟨w.heap.size, 0, none⟩ = some (.int .i64 nn) := (blk_cell K0.out 0).trans rfl; have hlt := blk_lt K0.out; have KB := Sd.mk (below_then (below_alloc (below_alloc (Below.refl _ w) _) _) (by simp; omega) hb1); clear hb1)
  go_loopw [19] (fun i wr => ∃ x : Int, i = .int .i64 x ∧ Sd (conf_table.Rel w1 nn l0_10 x wr)) (fun i _ => l0_10.length - (intOf i).toNat)
  case atStart => exact ⟨0, rfl, ⟨conf_table.start _ _ _⟩⟩
  case round =>
    obtain ⟨x, rfl, HRel⟩ := hrel
    have x0 : 0 ≤ x := HRel.out.1
    have HBW := Sd.mk HRel.out.2.2.1
    have hc00' : wr.cell? ⟨w.heap.size, 0, none⟩ = some (.int .i64 nn) := (HBW.out.cell (p := ⟨w.heap.size, 0, none⟩) hlt).trans hc00
    by_cases hl2 : x < l0_10.length
    · obtain ⟨ad, e, hx⟩ := Kd.at_int HR.out x x0 hl2
      subst e
      have hx' : wr.cell? (ad.add x.toNat) = some (.int .i64 (rd l0_10 x)) := pw_cell_below (below_then KB.out KB.out.size HBW.out) hx
      have hl2b : decide (x < (l0_10.length : Int)) = true := decide_eq_true hl2
      clear hx hc10 hc00
      by_cases d1 : rd l0_10 x < 0
      · have d1b : decide (rd l0_10 x < 0) = true := decide_eq_true d1
        have HB2 := Sd.mk (conf_table.bad (n := nn) x0 hl2 (.inl d1))
        go_wp2
        go_ret
        exact ⟨by rw [HB2.out]; rfl, below_then KB.out KB.out.size HBW.out⟩
      by_cases d2 : (nn : Int) ≤ rd l0_10 x
      · have d1b : decide (rd l0_10 x < 0) = false := decide_eq_false d1
        have d2b : decide ((nn : Int) ≤ rd l0_10 x) = true := decide_eq_true d2
        have HB2 := Sd.mk (conf_table.bad (n := nn) x0 hl2 (.inr d2))
        go_wp2
        go_ret
        exact ⟨by rw [HB2.out]; rfl, below_then KB.out KB.out.size HBW.out⟩
      have d1b : decide (rd l0_10 x < 0) = false := decide_eq_false d1
      have d2b : decide ((nn : Int) ≤ rd l0_10 x) = false := decide_eq_false d2
      obtain ⟨c, hc0, hc1, hcell, hfroz, hrel2⟩ := conf_table.step HRel.out hl2 (by omega) (by omega) c4
      have HREL2 := Sd.mk hrel2
      clear hrel2
      go_wp2
      go_roundw
      case rel => exact ⟨x + 1, rfl, HREL2⟩
      case measure => simp [intOf]; omega
    · have hl2b : decide (x < (l0_10.length : Int)) = false := decide_eq_false hl2
      obtain ⟨cs, hcs, hcell, hz, hal⟩ := conf_table.fin HRel.out hl2
      have HCELL := Sd.mk hcell
      have HZ := Sd.mk hz
      have HAL := Sd.mk hal
      clear hcell hz hal hcs
      go_wp2
      go_loopw [41] (fun i w' => ∃ y : Int, i = .int .i64 y ∧ 0 ≤ y ∧ y ≤ nn ∧ Sd (∀ z : Int, 0 ≤ z → z < y → z ∈ l0_10) ∧ w' = wr) (fun i _ => nn - (intOf i).toNat)
      case atStart => exact ⟨0, rfl, by omega, by omega, ⟨fun z h0 h1 => by omega⟩, rfl⟩
      case round =>
        obtain ⟨y, rfl, y0, y1, HY, rfl⟩ := hrel
        by_cases hy : y < (nn : Int)
        · have hyb : decide (y < (nn : Int)) = true := decide_eq_true hy
          have hcy := HCELL.out y y0 (by omega)
          by_cases hzy : rd cs y = 0
          · have hzb : (rd cs y == 0) = true := beq_iff_eq.mpr hzy
            have HB2 := Sd.mk (conf_table.lacks (n := nn) y0 hy ((HZ.out y y0 (by omega)).1 hzy))
            clear hzy
            go_wp2
            go_ret
            exact ⟨by rw [HB2.out]; rfl, below_then KB.out KB.out.size HBW.out⟩
          · have hzb : (rd cs y == 0) = false := beq_eq_false_iff_ne.mpr hzy
            have HY2 : Sd (∀ z : Int, 0 ≤ z → z < y + 1 → z ∈ l0_10) := ⟨fun z h0 h1 => by
              rcases Int.lt_or_eq_of_le (show z ≤ y by omega) with h2 | h2
              · exact HY.out z h0 h2
              · subst h2
                exact Classical.byContradiction fun hn => hzy ((HZ.out z y0 (by omega)).2 hn)⟩
            clear hzy
            go_wp2
            go_roundw
            case rel => exact ⟨y + 1, rfl, by omega, by omega, HY2, trivial⟩
            case measure => simp [intOf]; omega
        · have hyb : decide (y < (nn : Int)) = false := decide_eq_false hy
          have HG := Sd.mk (conf_table.good (n := nn) HAL.out (fun z h0 h1 => HY.out z h0 (by omega)))
          go_wp2
          go_ret
          exact ⟨by rw [HG.out]; rfl, below_then KB.out KB.out.size HBW.out⟩
end Go.Proofs.Ytbfnkdgjcpcmbaa.X
