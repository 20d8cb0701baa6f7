-- Laid by xprint.py, a program of this session, by the kit's print over contracts of our own. Lean checks it.
import Derived.Deep.RegionHeld3
import Derived.Laws.CopyOwn
import Derived.Test.YtfdkmeokfmgfhaaXx0
import Derived.Test.YtfdkmeokfmgfhaaXx4
import Derived.Test.YtfdkmeokfmgfhaaXx5
namespace Go.Proofs.Ytfdkmeokfmgfhaa.X
open Go.RowKit Go.Proofs.YtfdkmeokfmgfhaaW.PrintWords Go.Proofs.YtfdkmeokfmgfhaaW.PrintLast Go.Proofs.YtfdkmeokfmgfhaaW.PrintMore
attribute [local go_sem] max2_int min2_int max_two min_two max_three min_three max_four min_four   -- for this text's walks alone
set_option linter.unusedVariables false
set_option linter.unusedSimpArgs false

/-! ### hold_Take: function 28 -/
-- stub
/-- A world in which one row alone has been written. -/
structure hold_Take.Only (g : Nat) (w w' : World) : Prop where
  os : w'.os = w.os
  tape : w'.tape = w.tape
  output : w'.output = w.output
  size : w'.heap.size = w.heap.size
  other : ∀ k, k ≠ g → w'.heap[k]? = w.heap[k]?
theorem hold_Take.Only.below {g : Nat} {w0 w w' : World} (h : hold_Take.Only g w w') {B : Nat} (hb : Below B w0 w) (hg : B ≤ g) : Below B w0 w' :=
  hb.trans ⟨h.os, h.tape, h.output, by rw [h.size]; exact Nat.le_refl _, fun k hk => h.other k (by omega)⟩
/-- A copy into a row that is known whole, as one step of a region. -/
theorem hold_Take.step {P : Program} {ops : Array Oper} {o : Oper} {a : Act} {w : World} {K : Act → World → Prop} {Q : Exit → Act → World → Prop} {E : Prop} (hgd : o.guard = none) (d s : Operand) (dT sT : TypeId)
    (ho : o.op = .call { callee := .builtin .copy, args := #[d, s], argTypes := #[dT, sT] }) (elem : TypeId) (hu : P.underlying dT = some (.slice elem)) (hsz : (P.info? elem).map (·.size) = some 1)
    (dp sp : Option Addr) (dLen dCap sLen sCap : Nat) (hd : a.eval d = .slice dp dLen dCap) (hs : a.eval s = .slice sp sLen sCap)
    (g off : Nat) (cur : List Value) (t : TypeId) (hg : w.heap[g]? = some (.cells cur.toArray t (0, 0))) (cs : List Value) (hn : cs.length = Nat.min sLen dLen)
    (hpos : 0 < cs.length → dp = some ⟨g, off, none⟩ ∧ ∃ ad, sp = some ad ∧ ∀ j v, cs[j]? = some v → w.cell? (ad.add j) = some v)
    (hfit : off + cs.length ≤ cur.length) (h1 : ∀ v ∈ cs, v.oneCell' = true)
    (h : ∀ w', Aside0 (w'.heap[g]? = some (.cells (splice cur off cs).toArray t (0, 0))) → Aside0 (hold_Take.Only g w w') → K (a.put o.dst (goInt cs.length)) w') :
    if Region.wanted o (yielded ops a.tmps) = true then Oper.wp P o a w K Q else E := by
  rw [if_pos (by simp [Region.wanted, hgd])]
  by_cases h0 : cs.length = 0
  · obtain rfl : cs = [] := List.eq_nil_of_length_eq_zero h0
    have hrun := run_copy_none (P := P) w dT sT o.type elem dp sp dLen dCap sLen sCap hu hsz (by simpa using hn.symm)
    unfold Oper.wp
    simp [execOp, ho, resolve, invoke, builtin, hd, hs, hrun, Result.andThen]
    exact h w ⟨by simpa [splice] using hg⟩ ⟨rfl, rfl, rfl, rfl, fun _ _ => rfl⟩
  · obtain ⟨rfl, ad, rfl, hsrc⟩ := hpos (by omega)
    have hrun := run_copy_row (P := P) w dT sT o.type elem g off dLen dCap ad sLen sCap cur.toArray t cs hu hsz hg hn hsrc (by simpa using hfit) h1
    unfold Oper.wp
    simp [execOp, ho, resolve, invoke, builtin, hd, hs, hrun, Result.andThen]
    exact h _ ⟨by simpa [splice] using setRow_heap w g _ _ t _ hg⟩ ⟨rfl, rfl, rfl, by simp [World.setRow], fun k hk => setRow_other w g k _ hk⟩
theorem hold_Take.addr1 (g i : Nat) : (⟨g, 0, none⟩ : Addr).add i = ⟨g, i, none⟩ := by
  unfold Addr.add
  by_cases h : i = 0
  · rw [if_pos h, h]
  · rw [if_neg h]
    simp
/-- What is for this tick, as far as the first nodes. -/
def hold_Take.now (l : List ByteArray) (d : Int) (n : Nat) : Nat → List ByteArray
  | 0 => List.replicate n (⟨#[]⟩ : ByteArray)
  | j + 1 => (hold_Take.now l d n j).set j (rdOf ByteArray.empty l ((j : Int) * d))
/-- What stays, as far as the first nodes. -/
def hold_Take.rest (l : List ByteArray) (d : Int) : Nat → List ByteArray
  | 0 => List.replicate l.length (⟨#[]⟩ : ByteArray)
  | j + 1 => splice (hold_Take.rest l d j) ((j : Int) * d).toNat ((l.drop (((j : Int) * d).toNat + 1)).take (d.toNat - 1))
theorem hold_Take.now_len (l : List ByteArray) (d : Int) (n : Nat) : ∀ j, (hold_Take.now l d n j).length = n
  | 0 => by simp [hold_Take.now]
  | j + 1 => by rw [hold_Take.now, List.length_set]; exact hold_Take.now_len l d n j
theorem hold_Take.splice_map {α β : Type} (f : α → β) (L : List α) (off : Nat) (cs : List α) : (splice L off cs).map f = splice (L.map f) off (cs.map f) := by simp [splice]
theorem hold_Take.fits {d x n : Int} (hd : 1 ≤ d) (h0 : 0 ≤ x) (hx : x < n) : 0 ≤ x * d ∧ x * d + d ≤ n * d := by
  have h1 : 0 ≤ x * d := Int.mul_nonneg h0 (by omega)
  have h2 : (x + 1) * d ≤ n * d := Int.mul_le_mul_of_nonneg_right (by omega) (by omega)
  rw [Int.add_mul, Int.one_mul] at h2
  exact ⟨h1, h2⟩
theorem hold_Take.rest_len (l : List ByteArray) (d n : Int) (hd : 1 ≤ d) (hn : n * d = l.length) : ∀ j : Nat, (j : Int) ≤ n → (hold_Take.rest l d j).length = l.length
  | 0, _ => by simp [hold_Take.rest]
  | j + 1, h => by
    have ih := hold_Take.rest_len l d n hd hn j (by omega)
    have hf := hold_Take.fits (d := d) (x := (j : Int)) (n := n) hd (by omega) (by omega)
    rw [hold_Take.rest, length_splice, ih]
    rw [ih, List.length_take, List.length_drop]
    omega
theorem hold_Take.mk (n : Int) (h0 : 0 ≤ n) (h1 : n ≤ 1000000) (W : World) : (Instr.makeSlice 45 (.int .i64 n) (.int .i64 n)).run Try.prog W = .ok (.slice (some ⟨W.heap.size, 0, none⟩) n.toNat n.toNat) (W.alloc (.cells ((List.replicate n.toNat (⟨#[]⟩ : ByteArray)).map Value.string).toArray 9)) := by
  obtain ⟨i0, hi, hz0, hz1, hz2⟩ := info_parts (show (Try.prog.info? 9).map (fun i => (i.zero, i.size, i.bytes)) = some (some (.string ⟨#[]⟩), 1, 16) by kernel_rfl)
  have h := run_make (P := Try.prog) W 45 9 i0 _ Try.underlying45 hi hz0 .i64 .i64 n n h0 (Int.le_refl _) (by rw [hz2]; omega) (by omega)
  rw [h, hz1, Nat.mul_one]
  have e : madeCells (Value.string ⟨#[]⟩).cells n.toNat = ((List.replicate n.toNat (⟨#[]⟩ : ByteArray)).map Value.string).toArray := by
    apply Array.toList_inj.1
    rw [show (Value.string ⟨#[]⟩).cells = #[Value.string ⟨#[]⟩] from rfl, toList_madeCells_one]
    simp
  rw [e]
theorem hold_Take.rowR {w : World} {base e g n : Nat} {ok : Nat → Prop} {xs : List ByteArray} (h : w.heap[g]? = some (.cells (xs.map Value.string).toArray e (0, 0))) (hb : base ≤ g) (hn : xs.length = n) (hm : n ≤ 1000000) (hok : ok g) : Kd.string.R e w base ok (.slice (some ⟨g, 0, none⟩) n n) xs := by
  subst hn
  refine Kd.R_of_own ⟨by simp [encs], .inr ⟨g, xs.length, _, rfl, hb, h, Nat.le_refl _, by unfold maxLen; omega, by simp, by rw [List.take_of_length_le (by simp)]; rfl⟩⟩ (fun k hk => ?_)
  have : g = k := by simpa [Value.ownBlock] using hk
  exact this ▸ hok
def hold_Take.f (k : Nat) (a0_0 : Int) (a0_1 : Int) (a0_2 : Int) (a0_3 : Int) (a0_4 : Int) (a0_5 : Int) (a0_6 : Int) (a0_7 : Int) (a0_8 : Int) (a0_9 : Int) (l0_10 : List Int) (l1 : List ByteArray) : Option (List ByteArray × List ByteArray) := (hold_fits.f k a0_0 a0_1 a0_2 a0_3 a0_4 a0_5 a0_6 a0_7 a0_8 a0_9 l0_10 l1).bind fun b => if b = true then (if 0 ≤ a0_0 ∧ a0_0 ≤ 100 ∧ 1 ≤ a0_2 ∧ a0_2 ≤ 4 ∧ a0_0 * a0_2 = l1.length then some (hold_Take.now l1 a0_2 a0_0.toNat a0_0.toNat, hold_Take.rest l1 a0_2 a0_0.toNat) else none) else some ([], [])
theorem hold_Take.mono : ∀ a0 a1 a2 a3 a4 a5 a6 a7 a8 a9 a10 a11 k, LeO (hold_Take.f k a0 a1 a2 a3 a4 a5 a6 a7 a8 a9 a10 a11) (hold_Take.f (k + 1) a0 a1 a2 a3 a4 a5 a6 a7 a8 a9 a10 a11) := by
  intro a0 a1 a2 a3 a4 a5 a6 a7 a8 a9 a10 a11 k
  unfold hold_Take.f
  exact LeO.bind (hold_fits.mono _ _ _ _ _ _ _ _ _ _ _ _ _) (fun _ => LeO.refl _)
set_option maxHeartbeats 4000000 in
set_option maxRecDepth 100000 in
theorem hold_Take.calls (k : Nat) (a0_0 : Int) (a0_1 : Int) (a0_2 : Int) (a0_3 : Int) (a0_4 : Int) (a0_5 : Int) (a0_6 : Int) (a0_7 : Int) (a0_8 : Int) (a0_9 : Int) (A0_10 : Option Addr) (c0_10 : Nat) (l0_10 : List Int) (A1 : Option Addr) (c1 : Nat) (l1 : List ByteArray) (r1 : List ByteArray) (r2 : List ByteArray) (w : World) (hr0_10 : Kd.C (Kd.int .i64) w A0_10 l0_10.length l0_10) (hc0_10 : l0_10.length ≤ c0_10) (hr1 : Kd.C Kd.string w A1 l1.length l1) (hc1 : l1.length ≤ c1) (h : hold_Take.f k a0_0 a0_1 a0_2 a0_3 a0_4 a0_5 a0_6 a0_7 a0_8 a0_9 l0_10 l1 = some (r1, r2)) :
    Calls Try.prog 28 #[.agg #[.int .i64 a0_0, .int .i64 a0_1, .int .i64 a0_2, .int .i64 a0_3, .int .i64 a0_4, .int .i64 a0_5, .int .i64 a0_6, .int .i64 a0_7, .int .i64 a0_8, .int .i64 a0_9, .slice A0_10 l0_10.length c0_10], .slice A1 l1.length c1] w fun e w' => ∃ v0_ v1_ : Value, e = .returned (.tuple #[v0_, v1_]) ∧ Kd.R Kd.string 9 w' w.heap.size (fun k_ => some k_ ≠ (v1_ : Value).ownBlock) v0_ r1 ∧ Kd.R Kd.string 9 w' w.heap.size (fun k_ => some k_ ≠ (v0_ : Value).ownBlock) v1_ r2 ∧ Below w.heap.size w w' := by
  have HR := Aside0.mk hr0_10
  have HC := Aside0.mk hc0_10
  have HR1 := Aside0.mk hr1
  have HC1 := Aside0.mk hc1
  clear hr0_10 hc0_10 hr1 hc1
  unfold hold_Take.f at h
  obtain ⟨b, hf, h⟩ := Option.bind_eq_some_iff.mp h
  have HF := Aside0.mk hf
  clear hf
  by_cases c2 : b = true
  · subst c2
    rw [if_pos rfl] at h
    by_cases d5 : 0 ≤ a0_0 ∧ a0_0 ≤ 100 ∧ 1 ≤ a0_2 ∧ a0_2 ≤ 4 ∧ a0_0 * a0_2 = l1.length
    · rw [if_pos d5] at h
      obtain ⟨g0, g1, g2, g3, g4⟩ := d5
      simp only [Option.some.injEq, Prod.mk.injEq] at h
      obtain ⟨rfl, rfl⟩ := h
      have hlen : l1.length ≤ 400 := by
        have : a0_0 * a0_2 ≤ 100 * 4 := Int.mul_le_mul g1 g3 (by omega) (by omega)
        omega
      have hmk1 : ∀ W : World, (Instr.makeSlice 45 (.int .i64 a0_0) (.int .i64 a0_0)).run Try.prog W = _ := fun W => hold_Take.mk a0_0 g0 (by omega) W
      have hmk2 : ∀ W : World, (Instr.makeSlice 45 (.int .i64 (l1.length : Int)) (.int .i64 (l1.length : Int))).run Try.prog W = _ := fun W => hold_Take.mk (l1.length : Int) (by omega) (by omega) W
      rw [Int.toNat_natCast] at hmk2
      obtain ⟨NN, hNN⟩ : ∃ NN : Nat, a0_0.toNat = NN := ⟨_, rfl⟩
      rw [hNN] at hmk1
      obtain ⟨Z1, hZ1⟩ : ∃ Z1, ((List.replicate NN (⟨#[]⟩ : ByteArray)).map Value.string).toArray = Z1 := ⟨_, rfl⟩
      obtain ⟨Z2, hZ2⟩ : ∃ Z2, ((List.replicate l1.length (⟨#[]⟩ : ByteArray)).map Value.string).toArray = Z2 := ⟨_, rfl⟩
      rw [hZ1] at hmk1
      rw [hZ2] at hmk2
      have HNN := Aside0.mk hNN
      have HZ1 := Aside0.mk hZ1
      have HZ2 := Aside0.mk hZ2
      have HLEN := Aside0.mk g4
      have hsz1 : (Try.prog.info? 9).map (·.size) = some 1 := by kernel_rfl
      have HSZ := Aside0.mk hsz1
      clear hNN hZ1 hZ2 g4 hsz1
      go_enter Try.func28, Try.ntmps28
      go_upto_region 3 with (first | (go_at_call 49; (with_reducible refine (hold_fits.calls k a0_0 a0_1 a0_2 a0_3 a0_4 a0_5 a0_6 a0_7 a0_8 a0_9 _ _ l0_10 _ _ l1 true _ ?side1 ?side2 ?side3 ?side4 HF.out).mono ?_); (case side1 => exact Kd.C_alloc HR.out _); (case side2 => exact HC.out); (case side3 => exact Kd.C_alloc HR1.out _); (case side4 => exact HC1.out); rintro e' w1 ⟨rfl, hb⟩; have K1 := Aside0.mk (blk_below (blk_new w _) hb); have HB1 := Aside0.mk (below_then (below_alloc (Below.refl _ w) _) (by simp) hb); clear hb; obtain ⟨q0, q1, q2, q3, q4, q5, q6, q7, q8, q9, q10⟩ := hold_of.cells (fr := (0, 0)) K1.out))
      go_cut [4, 5] (fun v4 v5 wc => ∃ b1 b2 : Nat, v4 = .slice (some ⟨b1, 0, none⟩) NN NN ∧ v5 = .slice (some ⟨b2, 0, none⟩) l1.length l1.length ∧ Aside0 (w1.heap.size ≤ b1 ∧ w1.heap.size ≤ b2 ∧ b1 ≠ b2) ∧ Aside0 (wc.heap[b1]? = some (.cells Z1 9 (0, 0))) ∧ Aside0 (wc.heap[b2]? = some (.cells Z2 9 (0, 0))) ∧ Aside0 (Below w1.heap.size w1 wc))
      case first =>
        have hq : ∀ o, (w1.alloc o).cell? ⟨w.heap.size, 0, none⟩ = some (.int .i64 a0_0) := fun o => (blk_cell (blk_alloc K1.out o) 0).trans rfl
        go_region
        all_goals (try go_wp2)
        all_goals go_meet
        case rel => exact ⟨w1.heap.size, w1.heap.size + 1, rfl, rfl, ⟨by omega, by omega, by omega⟩, ⟨blk_drew (blk_alloc (blk_new w1 _) _)⟩, ⟨blk_drew (by simpa using blk_new (w1.alloc _) _)⟩, ⟨below_drew1 (below_alloc (below_alloc (Below.refl _ _) _) _)⟩⟩
        case rel => exact ⟨w1.heap.size + 1, w1.heap.size, rfl, rfl, ⟨by omega, by omega, by omega⟩, ⟨blk_drew (by simpa using blk_new (w1.alloc _) _)⟩, ⟨blk_drew (blk_alloc (blk_new w1 _) _)⟩, ⟨below_drew1 (below_alloc (below_alloc (Below.refl _ _) _) _)⟩⟩
      case rest =>
        obtain ⟨b1, b2, rfl, rfl, HG0, N0, R0, HBX⟩ := hcut
        have KC := Aside0.mk ((HBX.out.block _ (blk_lt K1.out)).trans K1.out)
        have HBC := Aside0.mk (HB1.out.trans (HBX.out.mono HB1.out.size))
        have HG := Aside0.mk (show w1.heap.size ≤ b2 ∧ w.heap.size ≤ b2 ∧ b1 ≠ b2 from ⟨HG0.out.2.1, Nat.le_trans HB1.out.size HG0.out.2.1, HG0.out.2.2⟩)
        clear q0 q1 q2 q3 q4 q5 q6 q7 q8 q9 q10
        have q0 : wc.cell? ⟨w.heap.size, 0, none⟩ = some (.int .i64 a0_0) := (blk_cell KC.out 0).trans rfl
        go_wp2
        clear q0
        go_loopw [20] (fun i wr => ∃ j : Nat, i = .int .i64 j ∧ (j : Int) ≤ a0_0 ∧ Aside0 (wr.heap[b1]? = some (.cells ((hold_Take.now l1 a0_2 NN j).map Value.string).toArray 9 (0, 0))) ∧ Aside0 (wr.heap[b2]? = some (.cells ((hold_Take.rest l1 a0_2 j).map Value.string).toArray 9 (0, 0))) ∧ Aside0 (wr.heap[w.heap.size]? = some (.cells #[.int .i64 a0_0, .int .i64 a0_1, .int .i64 a0_2, .int .i64 a0_3, .int .i64 a0_4, .int .i64 a0_5, .int .i64 a0_6, .int .i64 a0_7, .int .i64 a0_8, .int .i64 a0_9, .slice A0_10 l0_10.length c0_10] 24 (0, 0))) ∧ Aside0 (Below w.heap.size w wr)) (fun i _ => NN - (intOf i).toNat)
        case atStart => exact ⟨0, rfl, g0, ⟨by rw [show hold_Take.now l1 a0_2 NN 0 = List.replicate NN (⟨#[]⟩ : ByteArray) from rfl, HZ1.out]; exact N0.out⟩, ⟨by rw [show hold_Take.rest l1 a0_2 0 = List.replicate l1.length (⟨#[]⟩ : ByteArray) from rfl, HZ2.out]; exact R0.out⟩, KC, HBC⟩
        case round =>
          obtain ⟨j, rfl, hj, NJ, RJ, KJ, HBJ⟩ := hrel
          by_cases hlt : (j : Int) < a0_0
          · have hltb : decide ((j : Int) < a0_0) = true := decide_eq_true hlt
            obtain ⟨hy0, hyl⟩ := hold_Take.fits (d := a0_2) (x := (j : Int)) (n := a0_0) g2 (by omega) hlt
            obtain ⟨y, hy⟩ : ∃ y, (j : Int) * a0_2 = y := ⟨_, rfl⟩
            have hyz : ((j : Int) + 1) * a0_2 = y + a0_2 := by rw [Int.add_mul, hy, Int.one_mul]
            rw [hy] at hy0 hyl
            rw [HLEN.out] at hyl
            obtain ⟨ad, e0, hx⟩ := Kd.at_string HR1.out y (by omega) (by omega)
            subst e0
            have HRL := Aside0.mk (hold_Take.rest_len l1 a0_2 a0_0 g2 HLEN.out j hj)
            obtain ⟨L, hL⟩ : ∃ L : Nat, (y + a0_2).toNat - y.toNat = L := ⟨_, rfl⟩
            have HLd := Aside0.mk (show a0_2.toNat = L by omega)
            have hL0 : 1 ≤ L := by omega
            have hL0i : (1 : Int) ≤ (L : Int) := by omega
            have hL4 : L ≤ 4 := by omega
            obtain ⟨CS, hCS⟩ : ∃ CS, (l1.drop (y.toNat + 1)).take (L - 1) = CS := ⟨_, rfl⟩
            have HCL := Aside0.mk (show CS.length = L - 1 by rw [← hCS, List.length_take, List.length_drop]; omega)
            have HRS := Aside0.mk (show (hold_Take.rest l1 a0_2 (j + 1)).map Value.string = splice ((hold_Take.rest l1 a0_2 j).map Value.string) y.toNat (CS.map Value.string) by rw [← hold_Take.splice_map, ← hCS, ← hy, ← HLd.out]; rfl)
            have HNS := Aside0.mk (show (hold_Take.now l1 a0_2 NN (j + 1)).map Value.string = ((hold_Take.now l1 a0_2 NN j).map Value.string).set j (.string (rdOf ByteArray.empty l1 y)) by rw [hold_Take.now, hy, List.map_set])
            have HSRC := Aside0.mk (show ∀ (W : World), Kd.string.C W (some ad) l1.length l1 → ∀ (i : Nat) (v : Value), (CS.map Value.string)[i]? = some v → W.cell? (((ad.add y.toNat).add 1).add i) = some v from by
              intro W hC i v hi
              rw [← hCS] at hi
              obtain ⟨hlt, hv⟩ := List.getElem?_eq_some_iff.1 hi
              rw [List.length_map, List.length_take, List.length_drop] at hlt
              obtain ⟨ad', e1, hx⟩ := Kd.at_string hC ((y.toNat + 1 + i : Nat) : Int) (by omega) (by omega)
              injection e1 with e1
              subst e1
              rw [Int.toNat_natCast] at hx
              rw [hold_of.add_add, hold_of.add_add, ← hv, show y.toNat + (1 + i) = y.toNat + 1 + i by omega, hx]
              simp only [rdOf, Int.toNat_natCast, List.getD_eq_getElem?_getD, List.getElem_map, List.getElem_take, List.getElem_drop]
              rw [List.getElem?_eq_getElem (by omega)]
              rfl)
            have hjn : j < NN := by have := HNN.out; omega
            have HOLD := Aside0.mk (show ∃ s : Value, ((hold_Take.now l1 a0_2 NN j).map Value.string).toArray[j]? = some s from ⟨_, by rw [List.getElem?_toArray]; exact List.getElem?_eq_getElem (by rw [List.length_map, hold_Take.now_len]; exact hjn)⟩)
            have HY := Aside0.mk hy
            have HYZ := Aside0.mk hyz
            have HL := Aside0.mk hL
            have HX := Aside0.mk hx
            generalize hs0 : rdOf ByteArray.empty l1 y = s0 at HNS HX
            clear hy hyz hL hCS hx hs0
            have hj0 : (j : Int) < (NN : Int) := by omega
            obtain ⟨q0, q1, q2, q3, q4, q5, q6, q7, q8, q9, q10⟩ := hold_of.cells (fr := (0, 0)) KJ.out
            go_wp2_with (go_at_call 47; (with_reducible refine (hold_of.calls a0_0 a0_1 a0_2 a0_3 a0_4 a0_5 a0_6 a0_7 a0_8 a0_9 A0_10 l0_10.length c0_10 ad l1.length c1 (j : Int) y (y + a0_2) _ (by omega) (by omega) HY.out HYZ.out hy0 (by omega) (by have := HC1.out; omega) (by omega) L HL.out).mono ?_); rintro e' w6 ⟨rfl, hb⟩; have K6 := Aside0.mk (blk_below KJ.out hb); have N6 := Aside0.mk (blk_below NJ.out hb); have R6 := Aside0.mk (blk_below RJ.out hb); have HB6 := Aside0.mk (below_step HBJ.out hb); clear hb; clear q0 q1 q2 q3 q4 q5 q6 q7 q8 q9 q10; obtain ⟨old, hold⟩ := HOLD.out; have hm0 := pw_cell_below HB6.out HX.out; have hn0 : w6.cell? ⟨b1, j, none⟩ = some old := (blk_cell N6.out _).trans hold; have hn1 : w6.frozen? ⟨b1, j, none⟩ = false := blk_frozen N6.out _; clear hold)
            have n0 := Aside0.mk (show (w6.setCell ⟨b1, j, none⟩ (.string s0)).heap[w.heap.size]? = some (.cells #[.int .i64 a0_0, .int .i64 a0_1, .int .i64 a0_2, .int .i64 a0_3, .int .i64 a0_4, .int .i64 a0_5, .int .i64 a0_6, .int .i64 a0_7, .int .i64 a0_8, .int .i64 a0_9, .slice A0_10 l0_10.length c0_10] 24 (0, 0)) from blk_far K6.out (show w.heap.size ≠ b1 by have := HG0.out.1; have := blk_lt K1.out; omega) _)
            have n1 := Aside0.mk (show (w6.setCell ⟨b1, j, none⟩ (.string s0)).heap[b1]? = some (.cells ((hold_Take.now l1 a0_2 NN (j + 1)).map Value.string).toArray 9 (0, 0)) from blk_put N6.out j (.string s0) (by rw [HNS.out, List.setIfInBounds_toArray]))
            have n2 := Aside0.mk (show (w6.setCell ⟨b1, j, none⟩ (.string s0)).heap[b2]? = some (.cells ((hold_Take.rest l1 a0_2 j).map Value.string).toArray 9 (0, 0)) from blk_far R6.out (show b2 ≠ b1 from Ne.symm HG0.out.2.2) _)
            have n3 := Aside0.mk (HB6.out.setCell (p := ⟨b1, j, none⟩) (Nat.le_trans HB1.out.size HG0.out.1) (.string s0))
            clear K6 N6 R6 HB6 hm0 hn0 hn1
            have K6 := n0
            have N6 := n1
            have R6 := n2
            have HB6 := n3
            clear n0 n1 n2 n3
            generalize (w6.setCell ⟨b1, j, none⟩ (.string s0)) = w66 at K6 N6 R6 HB6 ⊢
            obtain ⟨q0, q1, q2, q3, q4, q5, q6, q7, q8, q9, q10⟩ := hold_of.cells (fr := (0, 0)) K6.out
            have hsz1 := HSZ.out
            refine start_ (n := 7) (S := fun w' => w'.cell? ⟨w.heap.size, 0, none⟩ = some (.int .i64 a0_0) ∧ w'.cell? ⟨w.heap.size, 1, none⟩ = some (.int .i64 a0_1) ∧ w'.cell? ⟨w.heap.size, 2, none⟩ = some (.int .i64 a0_2) ∧ w'.cell? ⟨w.heap.size, 3, none⟩ = some (.int .i64 a0_3) ∧ w'.cell? ⟨w.heap.size, 4, none⟩ = some (.int .i64 a0_4) ∧ w'.cell? ⟨w.heap.size, 5, none⟩ = some (.int .i64 a0_5) ∧ w'.cell? ⟨w.heap.size, 6, none⟩ = some (.int .i64 a0_6) ∧ w'.cell? ⟨w.heap.size, 7, none⟩ = some (.int .i64 a0_7) ∧ w'.cell? ⟨w.heap.size, 8, none⟩ = some (.int .i64 a0_8) ∧ w'.cell? ⟨w.heap.size, 9, none⟩ = some (.int .i64 a0_9) ∧ w'.cell? ⟨w.heap.size, 10, none⟩ = some (.slice A0_10 l0_10.length c0_10)) (ds := [6]) #[false, false, false, false, false, false, false] (by kernel_rfl) rfl rfl ⟨q0, q1, q2, q3, q4, q5, q6, q7, q8, q9, q10⟩ (fun hHeld => ?_)
            refine pure_ (i := 1) (N := some 34) (v := ?_) (a' := ?_) #[false, true, false, false, false, false, false] rfl rfl (by kernel_rfl) (fun _ _ _ h => h) (Or.inl ⟨by rfl, ?_⟩) ?_ ?_
            rotate_left
            · intro w'
              go_simp
              with_reducible rfl
            rotate_left
            · simp only [Act.put, List.setIfInBounds_toArray, List.set_cons_zero, List.set_cons_succ, i64_w, i32_w]
              rfl
            refine pure_ (i := 2) (N := some 35) (v := ?_) (a' := ?_) #[false, true, true, false, false, false, false] rfl rfl (by kernel_rfl) (fun _ _ _ h => h) (Or.inl ⟨by rfl, ?_⟩) ?_ ?_
            rotate_left
            · intro w'
              go_simp
              with_reducible rfl
            rotate_left
            · simp only [Act.put, List.setIfInBounds_toArray, List.set_cons_zero, List.set_cons_succ, i64_w, i32_w]
              rfl
            refine pure_ (i := 4) (N := some 37) (v := ?_) (a' := ?_) #[false, true, true, false, true, false, false] rfl rfl (by kernel_rfl) (fun _ _ _ h => h) (Or.inl ⟨by rfl, ?_⟩) ?_ ?_
            rotate_left
            · intro w'
              go_simp
              with_reducible rfl
            rotate_left
            · simp only [Act.put, List.setIfInBounds_toArray, List.set_cons_zero, List.set_cons_succ, i64_w, i32_w]
              rfl
            refine pure_ (i := 5) (N := some 38) (v := ?_) (a' := ?_) #[false, true, true, false, true, true, false] rfl rfl (by kernel_rfl) (fun _ _ _ h => h) (Or.inl ⟨by rfl, ?_⟩) ?_ ?_
            rotate_left
            · intro w'
              go_simp
              with_reducible rfl
            rotate_left
            · simp only [Act.put, List.setIfInBounds_toArray, List.set_cons_zero, List.set_cons_succ, i64_w, i32_w]
              rfl
            refine take_ (i := 0) (N := some 33) (v := ?_) (a' := ?_) #[true, true, true, false, true, true, false] rfl rfl (by kernel_rfl) (fun _ _ _ h => h) (Or.inl ⟨by rfl, ?_⟩) hHeld ?_ ?_
            rotate_left
            · rintro w' ⟨s0, s1, s2, s3, s4, s5, s6, s7, s8, s9, s10⟩
              go_simp
              with_reducible rfl
            rotate_left
            · simp only [Act.put, List.setIfInBounds_toArray, List.set_cons_zero, List.set_cons_succ, i64_w, i32_w]
              rfl
            refine one_ (i := 3) (N := some 36) #[true, true, true, true, true, true, false] rfl rfl (by kernel_rfl) (by decide) (fun K hK => ?_)
            refine goes_ Try.func47 (by kernel_rfl) rfl #[.agg #[.int .i64 a0_0, .int .i64 a0_1, .int .i64 a0_2, .int .i64 a0_3, .int .i64 a0_4, .int .i64 a0_5, .int .i64 a0_6, .int .i64 a0_7, .int .i64 a0_8, .int .i64 a0_9, .slice A0_10 l0_10.length c0_10], .slice (some ⟨b2, 0, none⟩) l1.length l1.length, .int .i64 (j : Int)] (by rfl) rfl rfl (by simp only [List.map_toArray, List.map_cons, List.map_nil]; rfl) ?_
            with_reducible refine (hold_of.calls a0_0 a0_1 a0_2 a0_3 a0_4 a0_5 a0_6 a0_7 a0_8 a0_9 A0_10 l0_10.length c0_10 ⟨b2, 0, none⟩ l1.length l1.length (j : Int) y (y + a0_2) _ (by omega) (by omega) HY.out HYZ.out hy0 (by omega) (by omega) (by omega) L HL.out).mono ?_
            rintro e' w7 ⟨rfl, hb⟩
            refine ⟨_, rfl, ?_⟩
            have K7 := Aside0.mk (blk_below (blk_drew K6.out) hb)
            have N7 := Aside0.mk (blk_below (blk_drew N6.out) hb)
            have R7 := Aside0.mk (blk_below (blk_drew R6.out) hb)
            have HB7 := Aside0.mk (below_step (below_drew1 HB6.out) hb)
            clear hb
            refine hK.out _ _ ⟨(blk_cell K7.out 0).trans rfl, (blk_cell K7.out 1).trans rfl, (blk_cell K7.out 2).trans rfl, (blk_cell K7.out 3).trans rfl, (blk_cell K7.out 4).trans rfl, (blk_cell K7.out 5).trans rfl, (blk_cell K7.out 6).trans rfl, (blk_cell K7.out 7).trans rfl, (blk_cell K7.out 8).trans rfl, (blk_cell K7.out 9).trans rfl, (blk_cell K7.out 10).trans rfl⟩ (fun hHeld => ?_)
            clear hK K
            refine norm_ (a' := ?_) ?_ ?_
            rotate_left
            · show Act.put _ (some 36) _ = _
              simp only [Act.put, List.setIfInBounds_toArray, List.set_cons_zero, List.set_cons_succ, i64_w, i32_w]
              rfl
            refine last_ (i := 6) (N := some 39) #[true, true, true, true, true, true, true] rfl rfl (by kernel_rfl) (by decide) (fun K hK => ?_)
            refine hold_Take.step rfl (.tmp 36) (.tmp 38) 45 45 rfl 9 Try.underlying45 hsz1 _ _ L L (L - 1) (L - 1) rfl rfl b2 y.toNat _ 9 R7.out (CS.map Value.string) (by rw [List.length_map, HCL.out]; exact (Nat.min_eq_left (by omega)).symm) (fun hp => ?_) (by rw [List.length_map, List.length_map, HCL.out, HRL.out]; have := HLd.out; omega) (by intro v hv; obtain ⟨s, _, rfl⟩ := List.mem_map.1 hv; rfl) ?_
            · have hL1 : ¬ L = 1 := by have := HCL.out; simp at hp; omega
              refine ⟨by rw [hold_Take.addr1], (ad.add y.toNat).add 1, by rw [if_neg hL1]; rfl, fun i v hi => ?_⟩
              exact HSRC.out w7 (Kd.C_below HR1.out HB7.out) i v hi
            intro w8 hcp hbc
            have R8 := Aside0.mk (show w8.heap[b2]? = some (.cells ((hold_Take.rest l1 a0_2 (j + 1)).map Value.string).toArray 9 (0, 0)) from by rw [HRS.out]; exact hcp.out)
            have K8 := Aside0.mk ((hbc.out.other _ (by have := HG.out.1; have := blk_lt K1.out; omega)).trans K7.out)
            have N8 := Aside0.mk ((hbc.out.other _ HG.out.2.2).trans N7.out)
            have HB8 := Aside0.mk (hbc.out.below HB7.out HG.out.2.1)
            clear hcp hbc
            refine hK.out _ _ ?_
            clear hK K
            refine norm_ (a' := ?_) ?_ ?_
            rotate_left
            · show Act.put _ (some 39) _ = _
              simp only [Act.put, List.setIfInBounds_toArray, List.set_cons_zero, List.set_cons_succ, i64_w, i32_w]
              rfl
            refine done_ (by kernel_rfl) ?_
            go_wp2
            go_roundw
            case rel => exact ⟨j + 1, by go_num, by omega, N8, R8, K8, HB8⟩
            case measure => simp [intOf]; omega
          · have hltb : decide ((j : Int) < a0_0) = false := decide_eq_false hlt
            obtain rfl : j = NN := by have := HNN.out; omega
            go_wp2
            go_ret2
            rw [HNN.out]
            exact ⟨_, _, rfl, hold_Take.rowR NJ.out (Nat.le_trans HB1.out.size HG0.out.1) (hold_Take.now_len _ _ _ _) (by omega) (by simpa [Value.ownBlock] using HG0.out.2.2), hold_Take.rowR RJ.out (Nat.le_trans HB1.out.size HG0.out.2.1) (hold_Take.rest_len l1 a0_2 a0_0 g2 HLEN.out j hj) (by omega) (by simpa [Value.ownBlock] using Ne.symm HG0.out.2.2), HBJ.out⟩
    · rw [if_neg d5] at h
      cases h
  · obtain rfl : b = false := by simpa using c2
    rw [if_neg c2] at h
    simp only [Option.some.injEq, Prod.mk.injEq] at h
    obtain ⟨rfl, rfl⟩ := h
    clear c2
    go_enter Try.func28, Try.ntmps28
    go_wp2_with (first | (go_at_call 49; (with_reducible refine (hold_fits.calls k a0_0 a0_1 a0_2 a0_3 a0_4 a0_5 a0_6 a0_7 a0_8 a0_9 _ _ l0_10 _ _ l1 false _ ?side1 ?side2 ?side3 ?side4 HF.out).mono ?_); (case side1 => exact Kd.C_alloc HR.out _); (case side2 => exact HC.out); (case side3 => exact Kd.C_alloc HR1.out _); (case side4 => exact HC1.out); rintro e' w1 ⟨rfl, hb⟩; have K1 := Aside0.mk (blk_below (blk_new w _) hb); have HB1 := Aside0.mk (below_then (below_alloc (Below.refl _ w) _) (by simp) hb); clear hb; obtain ⟨q0, q1, q2, q3, q4, q5, q6, q7, q8, q9, q10⟩ := hold_of.cells (fr := (0, 0)) K1.out))
    go_ret2
    exact ⟨_, _, rfl, Kd.R_nil _ _ _ _ _, Kd.R_nil _ _ _ _ _, HB1.out⟩

end Go.Proofs.Ytfdkmeokfmgfhaa.X
