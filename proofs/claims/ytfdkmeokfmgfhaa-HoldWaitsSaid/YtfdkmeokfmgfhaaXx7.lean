-- Laid by xprint.py, a program of this session, by the kit's print over contracts of our own. Lean checks it.
import Derived.Deep.RegionHeld3
import Derived.Laws.CopyOwn
import Derived.Test.YtfdkmeokfmgfhaaXx0
import Derived.Test.YtfdkmeokfmgfhaaXx4
import Derived.Test.YtfdkmeokfmgfhaaXx6
namespace Go.Proofs.Ytfdkmeokfmgfhaa.X
open Go.RowKit Go.Proofs.YtfdkmeokfmgfhaaW.PrintWords Go.Proofs.YtfdkmeokfmgfhaaW.PrintLast Go.Proofs.YtfdkmeokfmgfhaaW.PrintMore
attribute [local go_sem] max2_int min2_int max_two min_two max_three min_three max_four min_four   -- for this text's walks alone
set_option linter.unusedVariables false
set_option linter.unusedSimpArgs false

/-! ### hold_Put: function 23 -/
-- stub
def hold_Put.f (k : Nat) (a0_0 : Int) (a0_1 : Int) (a0_2 : Int) (a0_3 : Int) (a0_4 : Int) (a0_5 : Int) (a0_6 : Int) (a0_7 : Int) (a0_8 : Int) (a0_9 : Int) (l0_10 : List Int) (l1 : List ByteArray) (a2 : Int) (a3 : Int) (a4 : ByteArray) : Option (List ByteArray × Int) := (hold_refused.f k a0_0 a0_1 a0_2 a0_3 a0_4 a0_5 a0_6 a0_7 a0_8 a0_9 l0_10 l1 a2 a3 a4).bind fun e => if e = 0 then (if (0 ≤ a2 ∧ a2 ≤ 100 ∧ 1 ≤ a0_2 ∧ a0_2 ≤ 4 ∧ (a2 + 1) * a0_2 ≤ l1.length ∧ l1.length ≤ 1000000) ∧ 1 ≤ a3 ∧ a3 ≤ a0_2 then some (l1.set (a2 * a0_2 + (a0_2 - a3)).toNat a4, 0) else none) else some ([], e)
theorem hold_Put.mono : ∀ a0 a1 a2 a3 a4 a5 a6 a7 a8 a9 a10 a11 a12 a13 a14 k, LeO (hold_Put.f k a0 a1 a2 a3 a4 a5 a6 a7 a8 a9 a10 a11 a12 a13 a14) (hold_Put.f (k + 1) a0 a1 a2 a3 a4 a5 a6 a7 a8 a9 a10 a11 a12 a13 a14) := by
  intro a0 a1 a2 a3 a4 a5 a6 a7 a8 a9 a10 a11 a12 a13 a14 k
  unfold hold_Put.f
  exact LeO.bind (hold_refused.mono _ _ _ _ _ _ _ _ _ _ _ _ _ _ _ _) (fun _ => LeO.refl _)
set_option maxHeartbeats 4000000 in
set_option maxRecDepth 100000 in
theorem hold_Put.calls (k : Nat) (a0_0 : Int) (a0_1 : Int) (a0_2 : Int) (a0_3 : Int) (a0_4 : Int) (a0_5 : Int) (a0_6 : Int) (a0_7 : Int) (a0_8 : Int) (a0_9 : Int) (A0_10 : Option Addr) (c0_10 : Nat) (l0_10 : List Int) (A1 : Option Addr) (c1 : Nat) (l1 : List ByteArray) (a2 : Int) (a3 : Int) (a4 : ByteArray) (r1 : List ByteArray) (r2 : Int) (w : World) (hr0_10 : Kd.C (Kd.int .i64) w A0_10 l0_10.length l0_10) (hc0_10 : l0_10.length ≤ c0_10) (hr1 : Kd.C Kd.string w A1 l1.length l1) (hc1 : l1.length ≤ c1) (h : hold_Put.f k a0_0 a0_1 a0_2 a0_3 a0_4 a0_5 a0_6 a0_7 a0_8 a0_9 l0_10 l1 a2 a3 a4 = some (r1, r2)) :
    Calls Try.prog 23 #[.agg #[.int .i64 a0_0, .int .i64 a0_1, .int .i64 a0_2, .int .i64 a0_3, .int .i64 a0_4, .int .i64 a0_5, .int .i64 a0_6, .int .i64 a0_7, .int .i64 a0_8, .int .i64 a0_9, .slice A0_10 l0_10.length c0_10], .slice A1 l1.length c1, .int .i64 a2, .int .i64 a3, .string a4] w fun e w' => ∃ v0_ : Value, e = .returned (.tuple #[v0_, .int .i64 r2]) ∧ Kd.R Kd.string 9 w' w.heap.size (fun _ => True) v0_ r1 ∧ Below w.heap.size w w' := by
  have HR := Aside0.mk hr0_10
  have HC := Aside0.mk hc0_10
  have HR1 := Aside0.mk hr1
  have HC1 := Aside0.mk hc1
  clear hr0_10 hc0_10 hr1 hc1
  unfold hold_Put.f at h
  obtain ⟨e, hp, h⟩ := Option.bind_eq_some_iff.mp h
  have HP := Aside0.mk hp
  clear hp
  by_cases c1 : e = 0
  · subst c1
    rw [if_pos rfl] at h
    by_cases d5 : (0 ≤ a2 ∧ a2 ≤ 100 ∧ 1 ≤ a0_2 ∧ a0_2 ≤ 4 ∧ (a2 + 1) * a0_2 ≤ l1.length ∧ l1.length ≤ 1000000) ∧ 1 ≤ a3 ∧ a3 ≤ a0_2
    · rw [if_pos d5] at h
      obtain ⟨d5, g6, g7⟩ := d5
      obtain ⟨g0, g1, g2, g3, g4, g5⟩ := d5
      obtain ⟨y, hy⟩ : ∃ y, a2 * a0_2 = y := ⟨_, rfl⟩
      have hz : (a2 + 1) * a0_2 = y + a0_2 := by rw [Int.add_mul, hy, Int.one_mul]
      have hy0 : 0 ≤ y := by rw [← hy]; exact Int.mul_nonneg g0 (by omega)
      rw [hy] at h
      rw [hz] at g4
      obtain ⟨ad, e0, _⟩ := Kd.at_string HR1.out y (by omega) (by omega)
      subst e0
      have hx : ∀ j : Nat, j < a0_2.toNat → w.cell? ((ad.add y.toNat).add j) = some (.string (rdOf ByteArray.empty l1 (y + (j : Int)))) := by
        intro j hj
        obtain ⟨ad', e1, hx⟩ := Kd.at_string HR1.out (y + (j : Int)) (by omega) (by omega)
        injection e1 with e1
        subst e1
        rw [hold_of.add_add, show y.toNat + j = (y + (j : Int)).toNat by omega]
        exact hx
      have HX := Aside0.mk hx
      have HY := Aside0.mk hy
      have HZ := Aside0.mk hz
      clear hx hy hz
      obtain ⟨L, hL⟩ : ∃ L : Nat, (y + a0_2).toNat - y.toNat = L := ⟨_, rfl⟩
      have HLd := Aside0.mk (show a0_2.toNat = L by omega)
      have hL4 : L ≤ 4 := by omega
      have HL := Aside0.mk hL
      clear hL
      obtain ⟨x, hxe⟩ : ∃ x, a0_2 - a3 = x := ⟨_, rfl⟩
      rw [hxe] at h
      simp only [Option.some.injEq, Prod.mk.injEq] at h
      obtain ⟨rfl, rfl⟩ := h
      have j0 : 0 ≤ x := by omega
      have j1 : x < (L : Int) := by have := HLd.out; omega
      have j2 : x ≤ 4 := by omega
      have hw : IntKind.i64.wrap x = x := by simp only [i64_w]; unfold wrap64; omega
      have hat : (l1.map Value.string).toArray[y.toNat + x.toNat]? = some (.string (rdOf ByteArray.empty l1 (y + x))) := by
        have hlt : y.toNat + x.toNat < l1.length := by omega
        rw [List.getElem?_toArray, List.getElem?_map, List.getElem?_eq_getElem hlt]
        simp [rdOf, List.getD_eq_getElem?_getD, show (y + x).toNat = y.toNat + x.toNat by omega, hlt]
      have hcs : ∀ (W : World), Kd.string.C W (some ad) l1.length l1 → ∀ (j : Nat) (v : Value), (l1.map Value.string)[j]? = some v → W.cell? (ad.add j) = some v := by
        intro W hC j v hj
        obtain ⟨hlt, hv⟩ := List.getElem?_eq_some_iff.1 hj
        obtain ⟨ad', e1, hx⟩ := Kd.at_string hC (j : Int) (by omega) (by simpa using hlt)
        injection e1 with e1
        subst e1
        rw [← hv]
        simpa [rdOf, List.getD_eq_getElem?_getD, (by simpa using hlt : j < l1.length)] using hx
      have hspl : ∀ Z : List Value, Z.length = l1.length → splice Z 0 (l1.map Value.string) = l1.map Value.string := by
        intro Z hZ
        unfold splice
        rw [List.drop_eq_nil_of_le (by simp [hZ])]
        simp
      obtain ⟨i0, hi, hz0, hz1, hz2⟩ := info_parts (show (Try.prog.info? 9).map (fun i => (i.zero, i.size, i.bytes)) = some (some (.string ⟨#[]⟩), 1, 16) by kernel_rfl)
      have hsz1 : (Try.prog.info? 9).map (·.size) = some 1 := by kernel_rfl
      have HW := Aside0.mk hspl
      have HCS := Aside0.mk hcs
      have HAT := Aside0.mk hat
      clear HX hspl hcs hat
      go_enter Try.func23, Try.ntmps23
      go_wp2_with (first | (go_at_call 46; (with_reducible refine (hold_refused.calls k a0_0 a0_1 a0_2 a0_3 a0_4 a0_5 a0_6 a0_7 a0_8 a0_9 _ _ l0_10 _ _ l1 a2 a3 a4 0 _ ?side1 ?side2 ?side3 ?side4 HP.out).mono ?_); (case side1 => exact Kd.C_alloc HR.out _); (case side2 => exact HC.out); (case side3 => exact Kd.C_alloc HR1.out _); (case side4 => exact HC1.out); rintro e' w1 ⟨rfl, hb⟩; have K1 := Aside0.mk (blk_below (blk_new w _) hb); have HB1 := Aside0.mk (below_then (below_alloc (Below.refl _ w) _) (by simp) hb); clear hb; obtain ⟨q0, q1, q2, q3, q4, q5, q6, q7, q8, q9, q10⟩ := hold_of.cells (fr := (0, 0)) K1.out) | (at_make; refine wpList_make_full _ rfl _ _ 45 rfl w.heap.size 9 i0 _ 1 Try.underlying45 hi hz0 hz1 _ _ _ _ l1.length rfl rfl rfl rfl (by rw [hz2]; omega) (by unfold maxLen; omega) HB1.out.size ?_))
      intro wm hown hgr
      obtain ⟨Z, hrow, hlen⟩ := hold_of.row_some hown
      clear hown
      have KM := Aside0.mk (blk_grown K1.out hgr (by simp))
      have HBM := Aside0.mk (HB1.out.grown hgr HB1.out.size (by simp))
      have HRW := Aside0.mk hrow
      have HLN := Aside0.mk hlen
      clear hgr hrow hlen
      go_wp2_with ((with_reducible refine gate_dst (N := 28) rfl ?_); refine wpList_copy_splice rfl (.tmp 26) (.tmp 27) 45 45 rfl 9 Try.underlying45 hsz1 (some ⟨w1.heap.size, 0, none⟩) (some ad) l1.length l1.length l1.length c1 rfl rfl w1.heap.size 0 Z 9 HRW.out (l1.map Value.string) (by simp) (fun _ => ⟨rfl, ad, rfl, fun j v hj => HCS.out _ (Kd.C_below HR1.out HBM.out) j v hj⟩) (by have := HLN.out; simp; omega) (by intro v hv; obtain ⟨s, _, rfl⟩ := List.mem_map.1 hv; rfl) w1.heap.size wm (Below.refl _ _) (Nat.le_refl _) ?_)
      intro wc hcp hbc
      have HO := Aside0.mk (show wc.heap[w1.heap.size]? = some (.cells (l1.map Value.string).toArray 9 (0, 0)) from (by have := hcp.out; rw [HW.out Z HLN.out] at this; exact this))
      have KC := Aside0.mk ((hbc.block _ (blk_lt K1.out)).trans KM.out)
      have HBC := Aside0.mk (HBM.out.trans (hbc.mono HB1.out.size))
      clear hcp hbc
      obtain ⟨q0, q1, q2, q3, q4, q5, q6, q7, q8, q9, q10⟩ := hold_of.cells (fr := (0, 0)) KC.out
      go_wp2
      refine start_ (n := 11) (S := fun w' => w'.cell? ⟨w.heap.size, 0, none⟩ = some (.int .i64 a0_0) ∧ w'.cell? ⟨w.heap.size, 1, none⟩ = some (.int .i64 a0_1) ∧ w'.cell? ⟨w.heap.size, 2, none⟩ = some (.int .i64 a0_2) ∧ w'.cell? ⟨w.heap.size, 3, none⟩ = some (.int .i64 a0_3) ∧ w'.cell? ⟨w.heap.size, 4, none⟩ = some (.int .i64 a0_4) ∧ w'.cell? ⟨w.heap.size, 5, none⟩ = some (.int .i64 a0_5) ∧ w'.cell? ⟨w.heap.size, 6, none⟩ = some (.int .i64 a0_6) ∧ w'.cell? ⟨w.heap.size, 7, none⟩ = some (.int .i64 a0_7) ∧ w'.cell? ⟨w.heap.size, 8, none⟩ = some (.int .i64 a0_8) ∧ w'.cell? ⟨w.heap.size, 9, none⟩ = some (.int .i64 a0_9) ∧ w'.cell? ⟨w.heap.size, 10, none⟩ = some (.slice A0_10 l0_10.length c0_10)) (ds := [10]) #[false, false, false, false, false, false, false, false, false, false, false] (by kernel_rfl) rfl rfl ⟨q0, q1, q2, q3, q4, q5, q6, q7, q8, q9, q10⟩ (fun hHeld => ?_)
      refine pure_ (i := 1) (N := some 30) (v := ?_) (a' := ?_) #[false, true, false, false, false, false, false, false, false, false, false] rfl rfl (by kernel_rfl) (fun _ _ _ h => h) (Or.inl ⟨by rfl, ?_⟩) ?_ ?_
      rotate_left
      · intro w'
        go_simp
        with_reducible rfl
      rotate_left
      · simp only [Act.put, List.setIfInBounds_toArray, List.set_cons_zero, List.set_cons_succ, i64_w, i32_w]
        rfl
      refine pure_ (i := 2) (N := some 31) (v := ?_) (a' := ?_) #[false, true, true, false, false, false, false, false, false, false, false] rfl rfl (by kernel_rfl) (fun _ _ _ h => h) (Or.inl ⟨by rfl, ?_⟩) ?_ ?_
      rotate_left
      · intro w'
        go_simp
        with_reducible rfl
      rotate_left
      · simp only [Act.put, List.setIfInBounds_toArray, List.set_cons_zero, List.set_cons_succ, i64_w, i32_w]
        rfl
      refine pure_ (i := 4) (N := some 33) (v := ?_) (a' := ?_) #[false, true, true, false, true, false, false, false, false, false, false] rfl rfl (by kernel_rfl) (fun _ _ _ h => h) (Or.inl ⟨by rfl, ?_⟩) ?_ ?_
      rotate_left
      · intro w'
        go_simp
        with_reducible rfl
      rotate_left
      · simp only [Act.put, List.setIfInBounds_toArray, List.set_cons_zero, List.set_cons_succ, i64_w, i32_w]
        rfl
      refine pure_ (i := 6) (N := some 35) (v := ?_) (a' := ?_) #[false, true, true, false, true, false, true, false, false, false, false] rfl rfl (by kernel_rfl) (fun _ _ _ h => h) (Or.inl ⟨by rfl, ?_⟩) ?_ ?_
      rotate_left
      · intro w'
        go_simp
        with_reducible rfl
      rotate_left
      · simp only [Act.put, List.setIfInBounds_toArray, List.set_cons_zero, List.set_cons_succ, i64_w, i32_w]
        rfl
      refine pure_ (i := 8) (N := some 37) (v := ?_) (a' := ?_) #[false, true, true, false, true, false, true, false, true, false, false] rfl rfl (by kernel_rfl) (fun _ _ _ h => h) (Or.inl ⟨by rfl, ?_⟩) ?_ ?_
      rotate_left
      · intro w'
        go_simp
        with_reducible rfl
      rotate_left
      · simp only [Act.put, List.setIfInBounds_toArray, List.set_cons_zero, List.set_cons_succ, i64_w, i32_w]
        rfl
      refine take_ (i := 0) (N := some 29) (v := ?_) (a' := ?_) #[true, true, true, false, true, false, true, false, true, false, false] rfl rfl (by kernel_rfl) (fun _ _ _ h => h) (Or.inl ⟨by rfl, ?_⟩) hHeld ?_ ?_
      rotate_left
      · rintro w' ⟨s0, s1, s2, s3, s4, s5, s6, s7, s8, s9, s10⟩
        go_simp
        with_reducible rfl
      rotate_left
      · simp only [Act.put, List.setIfInBounds_toArray, List.set_cons_zero, List.set_cons_succ, i64_w, i32_w]
        rfl
      refine take_ (i := 5) (N := some 34) (v := ?_) (a' := ?_) #[true, true, true, false, true, true, true, false, true, false, false] rfl rfl (by kernel_rfl) (fun _ _ _ h => h) (Or.inl ⟨by rfl, ?_⟩) hHeld ?_ ?_
      rotate_left
      · rintro w' ⟨s0, s1, s2, s3, s4, s5, s6, s7, s8, s9, s10⟩
        go_simp
        with_reducible rfl
      rotate_left
      · simp only [Act.put, List.setIfInBounds_toArray, List.set_cons_zero, List.set_cons_succ, i64_w, i32_w]
        rfl
      refine pure_ (i := 7) (N := some 36) (v := ?_) (a' := ?_) #[true, true, true, false, true, true, true, true, true, false, false] rfl rfl (by kernel_rfl) (fun _ _ _ h => h) (Or.inl ⟨by rfl, ?_⟩) ?_ ?_
      rotate_left
      · intro w'
        go_simp
        with_reducible rfl
      rotate_left
      · simp only [Act.put, List.setIfInBounds_toArray, List.set_cons_zero, List.set_cons_succ, i64_w, i32_w]
        rfl
      refine one_ (i := 3) (N := some 32) #[true, true, true, true, true, true, true, true, true, false, false] rfl rfl (by kernel_rfl) (by decide) (fun K hK => ?_)
      refine goes_ Try.func47 (by kernel_rfl) rfl #[.agg #[.int .i64 a0_0, .int .i64 a0_1, .int .i64 a0_2, .int .i64 a0_3, .int .i64 a0_4, .int .i64 a0_5, .int .i64 a0_6, .int .i64 a0_7, .int .i64 a0_8, .int .i64 a0_9, .slice A0_10 l0_10.length c0_10], .slice (some ⟨w1.heap.size, 0, none⟩) l1.length l1.length, .int .i64 a2] (by rfl) rfl rfl (by simp only [List.map_toArray, List.map_cons, List.map_nil]; rfl) ?_
      with_reducible refine (hold_of.calls a0_0 a0_1 a0_2 a0_3 a0_4 a0_5 a0_6 a0_7 a0_8 a0_9 A0_10 l0_10.length c0_10 ⟨w1.heap.size, 0, none⟩ l1.length l1.length a2 y (y + a0_2) _ g0 g1 HY.out HZ.out hy0 (by omega) (by omega) (by omega) L HL.out).mono ?_
      rintro e' w5 ⟨rfl, hb⟩
      refine ⟨_, rfl, ?_⟩
      have K5 := Aside0.mk (blk_below (blk_drew KC.out) hb)
      have O5 := Aside0.mk (blk_below (blk_drew HO.out) hb)
      have HB5 := Aside0.mk (below_step (below_drew1 HBC.out) hb)
      clear hb
      have hcT : w5.cell? ⟨w1.heap.size, y.toNat + x.toNat, none⟩ = some (.string (rdOf ByteArray.empty l1 (y + x))) := (blk_cell O5.out _).trans HAT.out
      have hfT : w5.frozen? ⟨w1.heap.size, y.toNat + x.toNat, none⟩ = false := blk_frozen O5.out _
      refine hK.out _ _ ⟨(blk_cell K5.out 0).trans rfl, (blk_cell K5.out 1).trans rfl, (blk_cell K5.out 2).trans rfl, (blk_cell K5.out 3).trans rfl, (blk_cell K5.out 4).trans rfl, (blk_cell K5.out 5).trans rfl, (blk_cell K5.out 6).trans rfl, (blk_cell K5.out 7).trans rfl, (blk_cell K5.out 8).trans rfl, (blk_cell K5.out 9).trans rfl, (blk_cell K5.out 10).trans rfl⟩ (fun hHeld => ?_)
      clear hK K
      refine norm_ (a' := ?_) ?_ ?_
      rotate_left
      · show Act.put _ (some 32) _ = _
        simp only [Act.put, List.setIfInBounds_toArray, List.set_cons_zero, List.set_cons_succ, i64_w, i32_w]
        rfl
      refine pure_ (i := 9) (N := some 38) (v := ?_) (a' := ?_) #[true, true, true, true, true, true, true, true, true, true, false] rfl rfl (by kernel_rfl) (fun _ _ _ h => h) (Or.inl ⟨by rfl, ?_⟩) ?_ ?_
      rotate_left
      · intro w'
        go_simp
        with_reducible rfl
      rotate_left
      · simp only [Act.put, List.setIfInBounds_toArray, List.set_cons_zero, List.set_cons_succ, i64_w, i32_w]
        rfl
      refine last_ (i := 10) (N := none) #[true, true, true, true, true, true, true, true, true, true, true] rfl rfl (by kernel_rfl) (by decide) (fun K hK => ?_)
      refine skip_ (w1 := ?_) (by rfl) rfl ?_ ?_
      rotate_left
      · go_simp
        rfl
      refine hK.out _ _ ?_
      clear hK K
      refine done_ (by kernel_rfl) ?_
      go_wp2
      go_ret2
      exact ⟨_, rfl, by rw [show y.toNat + x.toNat = (y + x).toNat by omega]; exact Kd.R_putn (hold_of.row_R O5.out HB1.out.size g5) (y + x) a4, HB5.out.setCell HB1.out.size _⟩
    · rw [if_neg d5] at h
      cases h
  · rw [if_neg c1] at h
    simp only [Option.some.injEq, Prod.mk.injEq] at h
    obtain ⟨rfl, rfl⟩ := h
    have c1b : (e != 0) = true := by simpa using c1
    clear c1
    go_enter Try.func23, Try.ntmps23
    go_wp2_with (first | (go_at_call 46; (with_reducible refine (hold_refused.calls k a0_0 a0_1 a0_2 a0_3 a0_4 a0_5 a0_6 a0_7 a0_8 a0_9 _ _ l0_10 _ _ l1 a2 a3 a4 e _ ?side1 ?side2 ?side3 ?side4 HP.out).mono ?_); (case side1 => exact Kd.C_alloc HR.out _); (case side2 => exact HC.out); (case side3 => exact Kd.C_alloc HR1.out _); (case side4 => exact HC1.out); rintro e' w1 ⟨rfl, hb⟩; have K1 := Aside0.mk (blk_below (blk_new w _) hb); have HB1 := Aside0.mk (below_then (below_alloc (Below.refl _ w) _) (by simp) hb); clear hb; obtain ⟨q0, q1, q2, q3, q4, q5, q6, q7, q8, q9, q10⟩ := hold_of.cells (fr := (0, 0)) K1.out))
    go_ret2
    exact ⟨_, rfl, Kd.R_nil _ _ _ _ _, HB1.out⟩

end Go.Proofs.Ytfdkmeokfmgfhaa.X
