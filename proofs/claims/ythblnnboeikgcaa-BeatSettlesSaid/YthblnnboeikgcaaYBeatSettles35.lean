import Derived.RangeFuncNested
import Derived.RangeFuncBound
import Derived.RangeFuncCalls
import Derived.RangeFuncLeaves
import Derived.Shelf.Abstract
import Derived.Shelf.RegionOpen
import Derived.WalkKit
import Derived.OwnWalkIn
import Derived.TacticsInMore
import Derived.LoopNIn
import Derived.LoopIn
import Derived.Maps.AppendAt
import Derived.Test.YthblnnboeikgcaaYBeatSettles33
import Derived.Laws.IdiomStrings
import Derived.Test.YthblnnboeikgcaaYBeatSettles34
set_option maxHeartbeats 8000000
set_option maxRecDepth 100000
namespace Go.Proofs.Ythblnnboeikgcaa.B
open Go.RowKit Go.Proofs.YthblnnboeikgcaaW.PrintWords Go.Proofs.YthblnnboeikgcaaW.PrintLast Go.Proofs.YthblnnboeikgcaaW.PrintMore
attribute [local go_sem] max2_int min2_int max_two min_two max_three min_three max_four min_four   -- for this text's walks alone
set_option linter.unusedVariables false
set_option linter.unusedSimpArgs false
attribute [local go_sem] Oper.semAt_some
def pipe_Move.ix (d : Int) (j : Nat) : Nat := ((j : Int) * d + d).toNat
def pipe_Move.st (a0_0 a0_1 a0_2 a0_3 a0_4 a0_5 a0_6 a0_7 a0_8 a0_9 : Int) (l0_10 : List Int) (VS : List ByteArray) (L : List Int) (j : Nat) : List Int := L.set (pipe_Move.ix a0_2 j) (Go.Proofs.Ythblnnboeikgcaa.PipeLib.hearV a0_0 a0_1 a0_2 a0_3 a0_4 a0_5 a0_6 a0_7 a0_8 a0_9 l0_10 j (L.getD (pipe_Move.ix a0_2 j) 0) VS)
def pipe_Move.L0 (S : ByteArray) : List Int := 48 :: pipe_sound.nums S
def pipe_Move.run (a0_0 a0_1 a0_2 a0_3 a0_4 a0_5 a0_6 a0_7 a0_8 a0_9 : Int) (l0_10 : List Int) (VS : List ByteArray) (S : ByteArray) (js : List Nat) : List Int := js.foldl (pipe_Move.st a0_0 a0_1 a0_2 a0_3 a0_4 a0_5 a0_6 a0_7 a0_8 a0_9 l0_10 VS) (pipe_Move.L0 S)
def pipe_Move.all (a0_0 a0_1 a0_2 a0_3 a0_4 a0_5 a0_6 a0_7 a0_8 a0_9 : Int) (l0_10 : List Int) (VS : List ByteArray) (S : ByteArray) : List Int := pipe_Move.run a0_0 a0_1 a0_2 a0_3 a0_4 a0_5 a0_6 a0_7 a0_8 a0_9 l0_10 VS S (List.range (Go.Proofs.Ythblnnboeikgcaa.ConfLib.rounds a0_0 a0_1 a0_2 a0_3 a0_4 a0_5 a0_6 a0_7 a0_8 a0_9 l0_10).toNat)
def pipe_Move.out (S : ByteArray) (L : List Int) : Option (ByteArray × Int) := (vec_Values.f (strOfNums [L.getD S.size 0])).bind fun v => if v = ⟨#[49]⟩ then some (strOfNums (L.take S.size), 1) else some (strOfNums (L.take S.size), 0)
def pipe_Move.f (k : Nat) (a0_0 a0_1 a0_2 a0_3 a0_4 a0_5 a0_6 a0_7 a0_8 a0_9 : Int) (l0_10 : List Int) (a1 : ByteArray) (l2 : List ByteArray) : Option (ByteArray × Int) :=
  if 10 + l2.length < k ∧ l2.length ≤ 1000000 then
    if Go.Proofs.Ythblnnboeikgcaa.ConfLib.plain a0_0 a0_1 a0_2 a0_3 a0_4 a0_5 a0_6 a0_7 a0_8 a0_9 l0_10 = 0 then pipe_Move.out (Go.Proofs.Ythblnnboeikgcaa.PipeLib.well a0_0 a0_1 a0_2 a0_3 a0_4 a0_5 a0_6 a0_7 a0_8 a0_9 l0_10 a1) (pipe_Move.all a0_0 a0_1 a0_2 a0_3 a0_4 a0_5 a0_6 a0_7 a0_8 a0_9 l0_10 l2 (Go.Proofs.Ythblnnboeikgcaa.PipeLib.well a0_0 a0_1 a0_2 a0_3 a0_4 a0_5 a0_6 a0_7 a0_8 a0_9 l0_10 a1)) else some (⟨#[]⟩, 0)
  else none
theorem pipe_Move.mono : ∀ a0 a1 a2 a3 a4 a5 a6 a7 a8 a9 a10 a11 a12 k, LeO (pipe_Move.f k a0 a1 a2 a3 a4 a5 a6 a7 a8 a9 a10 a11 a12) (pipe_Move.f (k + 1) a0 a1 a2 a3 a4 a5 a6 a7 a8 a9 a10 a11 a12) := by
  intro a0 a1 a2 a3 a4 a5 a6 a7 a8 a9 a10 a11 a12 k r h
  unfold pipe_Move.f at h ⊢
  by_cases c : 10 + a12.length < k ∧ a12.length ≤ 1000000
  · rw [if_pos c] at h
    rw [if_pos ⟨by omega, c.2⟩]
    exact h
  · rw [if_neg c] at h
    cases h
theorem pipe_Move.L0_len (S : ByteArray) : (pipe_Move.L0 S).length = S.size + 1 := by simp [pipe_Move.L0, pipe_sound.nums]
theorem pipe_Move.st_len (a0_0 a0_1 a0_2 a0_3 a0_4 a0_5 a0_6 a0_7 a0_8 a0_9 : Int) (l0_10 : List Int) (VS : List ByteArray) (L : List Int) (j : Nat) : (pipe_Move.st a0_0 a0_1 a0_2 a0_3 a0_4 a0_5 a0_6 a0_7 a0_8 a0_9 l0_10 VS L j).length = L.length := by simp [pipe_Move.st]
theorem pipe_Move.run_len (a0_0 a0_1 a0_2 a0_3 a0_4 a0_5 a0_6 a0_7 a0_8 a0_9 : Int) (l0_10 : List Int) (VS : List ByteArray) (S : ByteArray) (js : List Nat) : (pipe_Move.run a0_0 a0_1 a0_2 a0_3 a0_4 a0_5 a0_6 a0_7 a0_8 a0_9 l0_10 VS S js).length = S.size + 1 := by
  unfold pipe_Move.run
  rw [← pipe_Move.L0_len S]
  generalize pipe_Move.L0 S = L
  induction js generalizing L with
  | nil => rfl
  | cons j js ih => rw [List.foldl_cons, ih, pipe_Move.st_len]
def pipe_Move.Bytes (L : List Int) : Prop := ∀ i : Nat, 0 ≤ L.getD i 0 ∧ L.getD i 0 ≤ 255
theorem pipe_Move.Bytes.set {L : List Int} (h : pipe_Move.Bytes L) (i : Nat) {x : Int} (h0 : 0 ≤ x) (h1 : x ≤ 255) : pipe_Move.Bytes (L.set i x) := by
  intro j
  have := h j
  rw [List.getD_eq_getElem?_getD] at this ⊢
  rw [List.getElem?_set]
  split
  · split
    · exact ⟨h0, h1⟩
    · simp
  · exact this
theorem pipe_Move.L0_bytes (S : ByteArray) : pipe_Move.Bytes (pipe_Move.L0 S) := by
  intro i
  unfold pipe_Move.L0
  cases i with
  | zero => exact ⟨by show (0 : Int) ≤ 48; decide, by show (48 : Int) ≤ 255; decide⟩
  | succ i =>
    show 0 ≤ (pipe_sound.nums S).getD i 0 ∧ (pipe_sound.nums S).getD i 0 ≤ 255
    have := bt_range S (i : Int)
    unfold pipe_sound.nums
    by_cases h : i < S.size
    · rw [show ((List.range S.size).map (fun (j : Nat) => bt S (j : Int))).getD i 0 = bt S (i : Int) by simp [List.getD_eq_getElem?_getD, h]]
      exact this
    · rw [show ((List.range S.size).map (fun (j : Nat) => bt S (j : Int))).getD i 0 = 0 by simp [List.getD_eq_getElem?_getD, h]]
      omega
theorem pipe_Move.run_bytes (a0_0 a0_1 a0_2 a0_3 a0_4 a0_5 a0_6 a0_7 a0_8 a0_9 : Int) (l0_10 : List Int) (VS : List ByteArray) (S : ByteArray) (js : List Nat) : pipe_Move.Bytes (pipe_Move.run a0_0 a0_1 a0_2 a0_3 a0_4 a0_5 a0_6 a0_7 a0_8 a0_9 l0_10 VS S js) := by
  unfold pipe_Move.run
  have h := pipe_Move.L0_bytes S
  generalize pipe_Move.L0 S = L at h
  induction js generalizing L with
  | nil => exact h
  | cons j js ih =>
    rw [List.foldl_cons]
    have hr := Go.Proofs.Ythblnnboeikgcaa.PipeLib.hearV_range a0_0 a0_1 a0_2 a0_3 a0_4 a0_5 a0_6 a0_7 a0_8 a0_9 l0_10 j (L.getD (pipe_Move.ix a0_2 j) 0) VS
    exact ih _ (h.set _ (by omega) (by omega))
theorem pipe_Move.run_snoc (a0_0 a0_1 a0_2 a0_3 a0_4 a0_5 a0_6 a0_7 a0_8 a0_9 : Int) (l0_10 : List Int) (VS : List ByteArray) (S : ByteArray) (js : List Nat) (j : Nat) : pipe_Move.run a0_0 a0_1 a0_2 a0_3 a0_4 a0_5 a0_6 a0_7 a0_8 a0_9 l0_10 VS S (js ++ [j]) = pipe_Move.st a0_0 a0_1 a0_2 a0_3 a0_4 a0_5 a0_6 a0_7 a0_8 a0_9 l0_10 VS (pipe_Move.run a0_0 a0_1 a0_2 a0_3 a0_4 a0_5 a0_6 a0_7 a0_8 a0_9 l0_10 VS S js) j := by simp [pipe_Move.run]
theorem pipe_Move.calls (k : Nat) (a0_0 : Int) (a0_1 : Int) (a0_2 : Int) (a0_3 : Int) (a0_4 : Int) (a0_5 : Int) (a0_6 : Int) (a0_7 : Int) (a0_8 : Int) (a0_9 : Int) (A0_10 : Option Addr) (c0_10 : Nat) (l0_10 : List Int) (a1 : ByteArray) (A2 : Option Addr) (c2 : Nat) (l2 : List ByteArray) (r1 : ByteArray) (r2 : Int) (w : World) (hr0_10 : Kd.C (Kd.int .i64) w A0_10 l0_10.length l0_10) (hc0_10 : l0_10.length ≤ c0_10) (hr2 : Kd.C Kd.string w A2 l2.length l2) (hc2 : l2.length ≤ c2) (h : pipe_Move.f k a0_0 a0_1 a0_2 a0_3 a0_4 a0_5 a0_6 a0_7 a0_8 a0_9 l0_10 a1 l2 = some (r1, r2)) :
    Calls Try.prog 35 #[.agg #[.int .i64 a0_0, .int .i64 a0_1, .int .i64 a0_2, .int .i64 a0_3, .int .i64 a0_4, .int .i64 a0_5, .int .i64 a0_6, .int .i64 a0_7, .int .i64 a0_8, .int .i64 a0_9, .slice A0_10 l0_10.length c0_10], .string a1, .slice A2 l2.length c2] w fun e w' => e = .returned (.tuple #[.string r1, .int .i64 r2]) ∧ Below w.heap.size w w' := by
  have HR := Sd.mk hr0_10
  have HC := Sd.mk hc0_10
  have HR2 := Sd.mk hr2
  have HC2 := Sd.mk hc2
  clear hr0_10 hc0_10 hr2 hc2
  unfold pipe_Move.f at h
  by_cases hk : 10 + l2.length < k ∧ l2.length ≤ 1000000
  case neg => rw [if_neg hk] at h; cases h
  rw [if_pos hk] at h
  have hPL := Go.Proofs.Ythblnnboeikgcaa.ConfLib.plain_at a0_0 a0_1 a0_2 a0_3 a0_4 a0_5 a0_6 a0_7 a0_8 a0_9 l0_10 (k := k) (by omega)
  by_cases hp : Go.Proofs.Ythblnnboeikgcaa.ConfLib.plain a0_0 a0_1 a0_2 a0_3 a0_4 a0_5 a0_6 a0_7 a0_8 a0_9 l0_10 = 0
  case neg =>
    rw [if_neg hp] at h
    cases h
    generalize Go.Proofs.Ythblnnboeikgcaa.ConfLib.plain a0_0 a0_1 a0_2 a0_3 a0_4 a0_5 a0_6 a0_7 a0_8 a0_9 l0_10 = e at hPL hp
    have HP := Sd.mk hPL
    have d1b : (e != 0) = true := by simpa using hp
    clear hPL hp hk
    go_enter Try.func35, Try.ntmps35
    go_wp2_with (first | (go_at_call 59; (with_reducible refine (conf_Plain.calls k a0_0 a0_1 a0_2 a0_3 a0_4 a0_5 a0_6 a0_7 a0_8 a0_9 _ _ l0_10 e _ ?side1 ?side2 HP.out).mono ?_); (case side1 => exact Kd.C_alloc (Kd.C_alloc HR.out _) _); (case side2 => exact HC.out); rintro e' w1 ⟨rfl, hb⟩; have KC1 := Sd.mk (blk_below (blk_alloc (blk_new w _) _) hb); have KV1 : Sd (w1.heap[w.heap.size + 1]? = some (.cells #[.slice A2 l2.length c2] 37)) := ⟨by have h9 := blk_new (w.alloc (.cells #[.int .i64 a0_0, .int .i64 a0_1, .int .i64 a0_2, .int .i64 a0_3, .int .i64 a0_4, .int .i64 a0_5, .int .i64 a0_6, .int .i64 a0_7, .int .i64 a0_8, .int .i64 a0_9, .slice A0_10 l0_10.length c0_10] 24)) (.cells #[.slice A2 l2.length c2] 37); rw [World.size_alloc] at h9; exact blk_below h9 hb⟩; have HB1 := Sd.mk (below_then ((below_alloc (Below.refl _ w) _).alloc (by simp) _) (by simp; omega) hb); clear hb; have q0 : w1.cell? ⟨w.heap.size, 0, none⟩ = some (.int .i64 a0_0) := (blk_cell KC1.out 0).trans rfl; have q1 : w1.cell? ⟨w.heap.size, 1, none⟩ = some (.int .i64 a0_1) := (blk_cell KC1.out 1).trans rfl; have q2 : w1.cell? ⟨w.heap.size, 2, none⟩ = some (.int .i64 a0_2) := (blk_cell KC1.out 2).trans rfl; have q3 : w1.cell? ⟨w.heap.size, 3, none⟩ = some (.int .i64 a0_3) := (blk_cell KC1.out 3).trans rfl; have q4 : w1.cell? ⟨w.heap.size, 4, none⟩ = some (.int .i64 a0_4) := (blk_cell KC1.out 4).trans rfl; have q5 : w1.cell? ⟨w.heap.size, 5, none⟩ = some (.int .i64 a0_5) := (blk_cell KC1.out 5).trans rfl; have q6 : w1.cell? ⟨w.heap.size, 6, none⟩ = some (.int .i64 a0_6) := (blk_cell KC1.out 6).trans rfl; have q7 : w1.cell? ⟨w.heap.size, 7, none⟩ = some (.int .i64 a0_7) := (blk_cell KC1.out 7).trans rfl; have q8 : w1.cell? ⟨w.heap.size, 8, none⟩ = some (.int .i64 a0_8) := (blk_cell KC1.out 8).trans rfl; have q9 : w1.cell? ⟨w.heap.size, 9, none⟩ = some (.int .i64 a0_9) := (blk_cell KC1.out 9).trans rfl; have q10 : w1.cell? ⟨w.heap.size, 10, none⟩ = some (.slice A0_10 l0_10.length c0_10) := (blk_cell KC1.out 10).trans rfl; have qv : w1.cell? ⟨w.heap.size + 1, 0, none⟩ = some (.slice A2 l2.length c2) := (blk_cell KV1.out 0).trans rfl; have hl0 : w.heap.size < w1.heap.size := blk_lt KC1.out; have hl1 : w.heap.size + 1 < w1.heap.size := blk_lt KV1.out))
    go_ret2
    exact ⟨rfl, HB1.out⟩
  rw [if_pos hp] at h
  rw [hp] at hPL
  have HP := Sd.mk hPL
  clear hPL
  have hws := Go.Proofs.Ythblnnboeikgcaa.PipeLib.well_size a0_0 a0_1 a0_2 a0_3 a0_4 a0_5 a0_6 a0_7 a0_8 a0_9 l0_10 a1
  have hlf := Go.Proofs.Ythblnnboeikgcaa.PipeLib.length_facts a0_0 a0_1 a0_2 a0_3 a0_4 a0_5 a0_6 a0_7 a0_8 a0_9 l0_10
  have hle : Go.Proofs.Ythblnnboeikgcaa.ConfLib.length a0_0 a0_1 a0_2 a0_3 a0_4 a0_5 a0_6 a0_7 a0_8 a0_9 l0_10 = 3 * (a0_1 + 1) * a0_2 := by unfold Go.Proofs.Ythblnnboeikgcaa.ConfLib.length; rw [if_pos hp]
  have hro : Go.Proofs.Ythblnnboeikgcaa.ConfLib.rounds a0_0 a0_1 a0_2 a0_3 a0_4 a0_5 a0_6 a0_7 a0_8 a0_9 l0_10 = 3 * (a0_1 + 1) := by unfold Go.Proofs.Ythblnnboeikgcaa.ConfLib.rounds; rw [if_pos hp]
  have hpf := Go.Proofs.Ythblnnboeikgcaa.ConfLib.plain_facts hp
  have hd1 : 1 ≤ a0_2 := hpf.2.2.2.2.2.1
  have hd4 : a0_2 ≤ 4 := hpf.2.2.2.2.2.2.1
  obtain ⟨m, hm⟩ : ∃ m : Nat, 3 * (a0_1 + 1) = (m : Int) := Int.eq_ofNat_of_zero_le (by omega)
  have HM : Sd (m ≤ 15) := ⟨by omega⟩
  have HLN : Sd (conf_Length.f k a0_0 a0_1 a0_2 a0_3 a0_4 a0_5 a0_6 a0_7 a0_8 a0_9 l0_10 = some (((Go.Proofs.Ythblnnboeikgcaa.PipeLib.well a0_0 a0_1 a0_2 a0_3 a0_4 a0_5 a0_6 a0_7 a0_8 a0_9 l0_10 a1).size : Nat) : Int)) := ⟨by rw [hws]; exact Go.Proofs.Ythblnnboeikgcaa.ConfLib.length_at a0_0 a0_1 a0_2 a0_3 a0_4 a0_5 a0_6 a0_7 a0_8 a0_9 l0_10 (by omega)⟩
  have HSN := Sd.mk (Go.Proofs.Ythblnnboeikgcaa.PipeLib.sound_at a0_0 a0_1 a0_2 a0_3 a0_4 a0_5 a0_6 a0_7 a0_8 a0_9 l0_10 a1 (k := k) (by omega))
  have HRN : Sd (conf_Rounds.f k a0_0 a0_1 a0_2 a0_3 a0_4 a0_5 a0_6 a0_7 a0_8 a0_9 l0_10 = some (m : Int)) := ⟨by rw [← hm, ← hro]; exact Go.Proofs.Ythblnnboeikgcaa.ConfLib.rounds_at a0_0 a0_1 a0_2 a0_3 a0_4 a0_5 a0_6 a0_7 a0_8 a0_9 l0_10 (by omega)⟩
  have HH : Sd (∀ (x : Fin m) (c : Int), 0 ≤ c → c ≤ 255 → pipe_hear.f k a0_0 a0_1 a0_2 a0_3 a0_4 a0_5 a0_6 a0_7 a0_8 a0_9 l0_10 (x.val : Int) c l2 = some (Go.Proofs.Ythblnnboeikgcaa.PipeLib.hearV a0_0 a0_1 a0_2 a0_3 a0_4 a0_5 a0_6 a0_7 a0_8 a0_9 l0_10 x.val c l2)) := ⟨fun x c h0 h1 => Go.Proofs.Ythblnnboeikgcaa.PipeLib.hear_at a0_0 a0_1 a0_2 a0_3 a0_4 a0_5 a0_6 a0_7 a0_8 a0_9 l0_10 x.val (by rw [hro, hm]; have := x.isLt; omega) c h0 h1 l2 hk.2 hk.1⟩
  have HJ : Sd (∀ x : Fin m, 0 ≤ (x.val : Int) * a0_2 ∧ (x.val : Int) * a0_2 + a0_2 ≤ ((Go.Proofs.Ythblnnboeikgcaa.PipeLib.well a0_0 a0_1 a0_2 a0_3 a0_4 a0_5 a0_6 a0_7 a0_8 a0_9 l0_10 a1).size : Int)) := ⟨fun x => ⟨Int.mul_nonneg (by omega) (by omega), by
    rw [hws, hle, hm, show (x.val : Int) * a0_2 + a0_2 = ((x.val : Int) + 1) * a0_2 by rw [Int.add_mul, Int.one_mul]]
    exact Int.mul_le_mul_of_nonneg_right (by have := x.isLt; omega) (by omega)⟩⟩
  have HZ : Sd ((Go.Proofs.Ythblnnboeikgcaa.PipeLib.well a0_0 a0_1 a0_2 a0_3 a0_4 a0_5 a0_6 a0_7 a0_8 a0_9 l0_10 a1).size ≤ 60) := ⟨by omega⟩
  have HD : Sd (1 ≤ a0_2 ∧ a0_2 ≤ 4) := ⟨⟨hd1, hd4⟩⟩
  unfold pipe_Move.all at h
  rw [hro, hm, Int.toNat_natCast] at h
  have HO := Sd.mk h
  clear h hws hlf hle hro hpf hd1 hd4 hm hk hp
  generalize Go.Proofs.Ythblnnboeikgcaa.PipeLib.well a0_0 a0_1 a0_2 a0_3 a0_4 a0_5 a0_6 a0_7 a0_8 a0_9 l0_10 a1 = S at HLN HSN HJ HZ HO
  obtain ⟨i0, hi, hz0, hz1, hz2⟩ := info_parts info5
  refine (callsIn_wide (n := 3)).1 (callsIn_of_wp_marks Try.func35 rfl trivial (wpIn_wide.2 ?_) rfl)
  simp only [Try.ntmps35, List.size_toArray, List.length_cons, List.length_nil, Nat.reduceAdd, Nat.reduceSub, Array.replicate_succ, Array.replicate_zero, List.push_toArray, List.append_toArray, List.nil_append, List.cons_append]
  go_wp2_with (first | (go_at_call 59; (with_reducible refine (conf_Plain.calls k a0_0 a0_1 a0_2 a0_3 a0_4 a0_5 a0_6 a0_7 a0_8 a0_9 _ _ l0_10 0 _ ?side1 ?side2 HP.out).mono ?_); (case side1 => exact Kd.C_alloc (Kd.C_alloc HR.out _) _); (case side2 => exact HC.out); rintro e' w1 ⟨rfl, hb⟩; have KC1 := Sd.mk (blk_below (blk_alloc (blk_new w _) _) hb); have KV1 : Sd (w1.heap[w.heap.size + 1]? = some (.cells #[.slice A2 l2.length c2] 37)) := ⟨by have h9 := blk_new (w.alloc (.cells #[.int .i64 a0_0, .int .i64 a0_1, .int .i64 a0_2, .int .i64 a0_3, .int .i64 a0_4, .int .i64 a0_5, .int .i64 a0_6, .int .i64 a0_7, .int .i64 a0_8, .int .i64 a0_9, .slice A0_10 l0_10.length c0_10] 24)) (.cells #[.slice A2 l2.length c2] 37); rw [World.size_alloc] at h9; exact blk_below h9 hb⟩; have HB1 := Sd.mk (below_then ((below_alloc (Below.refl _ w) _).alloc (by simp) _) (by simp; omega) hb); clear hb; have q0 : w1.cell? ⟨w.heap.size, 0, none⟩ = some (.int .i64 a0_0) := (blk_cell KC1.out 0).trans rfl; have q1 : w1.cell? ⟨w.heap.size, 1, none⟩ = some (.int .i64 a0_1) := (blk_cell KC1.out 1).trans rfl; have q2 : w1.cell? ⟨w.heap.size, 2, none⟩ = some (.int .i64 a0_2) := (blk_cell KC1.out 2).trans rfl; have q3 : w1.cell? ⟨w.heap.size, 3, none⟩ = some (.int .i64 a0_3) := (blk_cell KC1.out 3).trans rfl; have q4 : w1.cell? ⟨w.heap.size, 4, none⟩ = some (.int .i64 a0_4) := (blk_cell KC1.out 4).trans rfl; have q5 : w1.cell? ⟨w.heap.size, 5, none⟩ = some (.int .i64 a0_5) := (blk_cell KC1.out 5).trans rfl; have q6 : w1.cell? ⟨w.heap.size, 6, none⟩ = some (.int .i64 a0_6) := (blk_cell KC1.out 6).trans rfl; have q7 : w1.cell? ⟨w.heap.size, 7, none⟩ = some (.int .i64 a0_7) := (blk_cell KC1.out 7).trans rfl; have q8 : w1.cell? ⟨w.heap.size, 8, none⟩ = some (.int .i64 a0_8) := (blk_cell KC1.out 8).trans rfl; have q9 : w1.cell? ⟨w.heap.size, 9, none⟩ = some (.int .i64 a0_9) := (blk_cell KC1.out 9).trans rfl; have q10 : w1.cell? ⟨w.heap.size, 10, none⟩ = some (.slice A0_10 l0_10.length c0_10) := (blk_cell KC1.out 10).trans rfl; have qv : w1.cell? ⟨w.heap.size + 1, 0, none⟩ = some (.slice A2 l2.length c2) := (blk_cell KV1.out 0).trans rfl; have hl0 : w.heap.size < w1.heap.size := blk_lt KC1.out; have hl1 : w.heap.size + 1 < w1.heap.size := blk_lt KV1.out) | (go_at_call 67; (with_reducible refine (conf_Length.calls k a0_0 a0_1 a0_2 a0_3 a0_4 a0_5 a0_6 a0_7 a0_8 a0_9 _ _ l0_10 _ _ ?side1 ?side2 HLN.out).mono ?_); (case side1 => exact Kd.C_below HR.out HB1.out); (case side2 => exact HC.out); rintro e' w2 ⟨rfl, hb⟩; have KC2 := Sd.mk (blk_below KC1.out hb); have KV2 := Sd.mk (blk_below KV1.out hb); have HB2 := Sd.mk (below_then HB1.out HB1.out.size hb); clear hb; clear q0 q1 q2 q3 q4 q5 q6 q7 q8 q9 q10 qv hl0 hl1; have q0 : w2.cell? ⟨w.heap.size, 0, none⟩ = some (.int .i64 a0_0) := (blk_cell KC2.out 0).trans rfl; have q1 : w2.cell? ⟨w.heap.size, 1, none⟩ = some (.int .i64 a0_1) := (blk_cell KC2.out 1).trans rfl; have q2 : w2.cell? ⟨w.heap.size, 2, none⟩ = some (.int .i64 a0_2) := (blk_cell KC2.out 2).trans rfl; have q3 : w2.cell? ⟨w.heap.size, 3, none⟩ = some (.int .i64 a0_3) := (blk_cell KC2.out 3).trans rfl; have q4 : w2.cell? ⟨w.heap.size, 4, none⟩ = some (.int .i64 a0_4) := (blk_cell KC2.out 4).trans rfl; have q5 : w2.cell? ⟨w.heap.size, 5, none⟩ = some (.int .i64 a0_5) := (blk_cell KC2.out 5).trans rfl; have q6 : w2.cell? ⟨w.heap.size, 6, none⟩ = some (.int .i64 a0_6) := (blk_cell KC2.out 6).trans rfl; have q7 : w2.cell? ⟨w.heap.size, 7, none⟩ = some (.int .i64 a0_7) := (blk_cell KC2.out 7).trans rfl; have q8 : w2.cell? ⟨w.heap.size, 8, none⟩ = some (.int .i64 a0_8) := (blk_cell KC2.out 8).trans rfl; have q9 : w2.cell? ⟨w.heap.size, 9, none⟩ = some (.int .i64 a0_9) := (blk_cell KC2.out 9).trans rfl; have q10 : w2.cell? ⟨w.heap.size, 10, none⟩ = some (.slice A0_10 l0_10.length c0_10) := (blk_cell KC2.out 10).trans rfl; have qv : w2.cell? ⟨w.heap.size + 1, 0, none⟩ = some (.slice A2 l2.length c2) := (blk_cell KV2.out 0).trans rfl; have hl0 : w.heap.size < w2.heap.size := blk_lt KC2.out; have hl1 : w.heap.size + 1 < w2.heap.size := blk_lt KV2.out) | (go_at_call 84; (with_reducible refine (pipe_sound.calls k a0_0 a0_1 a0_2 a0_3 a0_4 a0_5 a0_6 a0_7 a0_8 a0_9 _ _ l0_10 a1 S _ ?side1 ?side2 HSN.out).mono ?_); (case side1 => exact Kd.C_alloc (Kd.C_below HR.out HB2.out) _); (case side2 => exact HC.out); rintro e' w3 ⟨v0, rfl, hrow, hb⟩; obtain ⟨g, cap, cs, fz, e0, hg, hcs, hfz, hcap, hat⟩ := hrow; subst e0; have hnew := pipe_sound.news_of hcs hat; have hn1 := pipe_sound.news_one S; have HNE := Sd.mk hl1; have hbA := blk_below (blk_new w2 (.cells #[.int .u8 48] 5)) hb; have hw23 : w2.heap.size ≤ w3.heap.size := Nat.le_of_lt (blk_lt hbA); have hrow3 : w3.ownsRow w2.heap.size 5 1 (.slice (some ⟨w2.heap.size, 0, none⟩) 1 1) 1 [.int .u8 48] := ⟨rfl, .inr ⟨_, _, _, rfl, Nat.le_refl _, hbA, by decide, by decide, rfl, rfl⟩⟩; have hn2 : ((pipe_sound.nums S).map (Value.int .u8)).length = S.size * 1 := (by simp [pipe_sound.nums]); have KC3 := Sd.mk (blk_below (blk_alloc KC2.out _) hb); have KV3 := Sd.mk (blk_below (blk_alloc KV2.out _) hb); have HB3 := Sd.mk (below_then (HB2.out.alloc HB2.out.size _) (by rw [World.size_alloc]; exact Nat.le_succ_of_le HB2.out.size) hb); clear hb hg hcs hfz hcap hat) | (at_builtin; refine wpList_append_own _ rfl _ _ 67 rfl w2.heap.size 5 i0 (.int .u8 0) 1 1 Try.underlying67 hi hz0 hz1 hz2 rfl (by decide) (.slice (some ⟨w2.heap.size, 0, none⟩) 1 1) 1 [.int .u8 48] rfl hrow3 ⟨g, 0, none⟩ S.size cap _ rfl hn2 hnew hn1 (by have := HZ.out; unfold maxLen; omega) (by have := HZ.out; omega) hw23 ?_; intro v' w4 hown' hgrow _; obtain ⟨gA, capA, rfl, hgA, hcA, hA⟩ := pipe_sound.all_of hown'; have HA4 := Sd.mk hA; have HGA := Sd.mk hgA; have HCA := Sd.mk hcA; have KC4 := Sd.mk (blk_grown KC3.out hgrow (fun e => Nat.ne_of_lt hl0 (Option.some.inj e))); have KV4 := Sd.mk (blk_grown KV3.out hgrow (fun e => Nat.ne_of_lt hl1 (Option.some.inj e))); have HB4 : Sd (Below w.heap.size w w4) := ⟨HB3.out.grown hgrow HB3.out.size (fun j e => by have e2 : w2.heap.size = j := Option.some.inj e; have e3 := HB2.out.size; omega)⟩; clear hown' hgrow hA hgA hcA hrow3 hnew hn1 hn2 hbA hw23; clear q0 q1 q2 q3 q4 q5 q6 q7 q8 q9 q10 qv hl0 hl1; have q0 : w4.cell? ⟨w.heap.size, 0, none⟩ = some (.int .i64 a0_0) := (blk_cell KC4.out 0).trans rfl; have q1 : w4.cell? ⟨w.heap.size, 1, none⟩ = some (.int .i64 a0_1) := (blk_cell KC4.out 1).trans rfl; have q2 : w4.cell? ⟨w.heap.size, 2, none⟩ = some (.int .i64 a0_2) := (blk_cell KC4.out 2).trans rfl; have q3 : w4.cell? ⟨w.heap.size, 3, none⟩ = some (.int .i64 a0_3) := (blk_cell KC4.out 3).trans rfl; have q4 : w4.cell? ⟨w.heap.size, 4, none⟩ = some (.int .i64 a0_4) := (blk_cell KC4.out 4).trans rfl; have q5 : w4.cell? ⟨w.heap.size, 5, none⟩ = some (.int .i64 a0_5) := (blk_cell KC4.out 5).trans rfl; have q6 : w4.cell? ⟨w.heap.size, 6, none⟩ = some (.int .i64 a0_6) := (blk_cell KC4.out 6).trans rfl; have q7 : w4.cell? ⟨w.heap.size, 7, none⟩ = some (.int .i64 a0_7) := (blk_cell KC4.out 7).trans rfl; have q8 : w4.cell? ⟨w.heap.size, 8, none⟩ = some (.int .i64 a0_8) := (blk_cell KC4.out 8).trans rfl; have q9 : w4.cell? ⟨w.heap.size, 9, none⟩ = some (.int .i64 a0_9) := (blk_cell KC4.out 9).trans rfl; have q10 : w4.cell? ⟨w.heap.size, 10, none⟩ = some (.slice A0_10 l0_10.length c0_10) := (blk_cell KC4.out 10).trans rfl; have qv : w4.cell? ⟨w.heap.size + 1, 0, none⟩ = some (.slice A2 l2.length c2) := (blk_cell KV4.out 0).trans rfl; have hl0 : w.heap.size < w4.heap.size := blk_lt KC4.out; have hl1 : w.heap.size + 1 < w4.heap.size := blk_lt KV4.out) | (go_at_call 85; (with_reducible refine (plan_Ages.calls k a0_0 a0_1 a0_2 a0_3 a0_4 a0_5 a0_6 a0_7 a0_8 a0_9 _ _ l0_10 _ _ ?side1 ?side2 HRN.out).mono ?_); (case side1 => exact Kd.C_below HR.out (HB4.out.alloc HB4.out.size _)); (case side2 => exact HC.out); rintro e' w5 ⟨b1, b2, rfl, hb1, hb2, hl1_, hl2_, hc1, hc2, hb⟩; have KC5 := Sd.mk (blk_below (blk_alloc KC4.out _) hb); have KV5 := Sd.mk (blk_below (blk_alloc KV4.out _) hb); have KB5 : Sd (Boxed w5 w4.heap.size 67 (.slice (some ⟨gA, 0, none⟩) (S.size + 1) capA)) := ⟨blk_below (blk_new w4 _) hb⟩; have HA5 : Sd (Ythblnnboeikgcaa.Round.AllB 5 w5 gA (pipe_Move.L0 S)) := ⟨HA4.out.same ((hb.block gA (by rw [World.size_alloc]; exact Nat.lt_succ_of_lt HA4.out.lt)).trans (Below.heap_alloc _ _ _ HA4.out.lt))⟩; have HB5 := Sd.mk (below_then (HB4.out.alloc HB4.out.size _) (by rw [World.size_alloc]; exact Nat.le_succ_of_le HB4.out.size) hb); have HS5 : Sd (w4.heap.size + 1 ≤ w5.heap.size) := ⟨by have := hb.size; simpa using this⟩; have HL1 : Sd (w4.heap.size + 1 ≤ b1) := ⟨by simpa using hl1_⟩; have HL2 : Sd (w4.heap.size + 1 ≤ b2) := ⟨by simpa using hl2_⟩; clear hb hl1_ hl2_ q0 q1 q2 q3 q4 q5 q6 q7 q8 q9 q10 qv hl0 hl1))
  refine (wpIn_wide (n := 3)).1 ?_
  refine wpIn_rangeFunc_ownG (F := Fence.wide) rfl (by decide : 1 ≤ 3) (gf := 128) (lb := #[.pointer (some ⟨b1, 0, none⟩), .pointer (some ⟨b2, 0, none⟩)]) rfl trivial (enters_of Try.func128 (by kernel_rfl) rfl)
    (plan_Ages.stops Fence.wide 2 trivial rfl (by decide) b1 b2 m a0_2 HM.out (.inr ⟨by have := HD.out; omega, HD.out.2⟩) w5 hb1 hb2 hc1 hc2) plan_Ages.Kp.trans (plan_Ages.Kp.book hb1 hb2) (Below.refl _ _) (fun _ => rfl)
    (fun pre W => Boxed W w4.heap.size 67 (.slice (some ⟨gA, 0, none⟩) (S.size + 1) capA) ∧ (Ythblnnboeikgcaa.Round.AllB 5 W gA (pipe_Move.run a0_0 a0_1 a0_2 a0_3 a0_4 a0_5 a0_6 a0_7 a0_8 a0_9 l0_10 l2 S (pre.map (fun x : Fin m => x.val))) ∧ (W.heap[w.heap.size]? = some (.cells #[.int .i64 a0_0, .int .i64 a0_1, .int .i64 a0_2, .int .i64 a0_3, .int .i64 a0_4, .int .i64 a0_5, .int .i64 a0_6, .int .i64 a0_7, .int .i64 a0_8, .int .i64 a0_9, .slice A0_10 l0_10.length c0_10] 24) ∧ (W.heap[w.heap.size + 1]? = some (.cells #[.slice A2 l2.length c2] 37) ∧ (Below w.heap.size w W ∧ w5.heap.size ≤ W.heap.size)))))
    (fun _ _ _ => False)
    (OwnFrom.and (Own.from (boxed_own _ _ (fun _ => .slice (some ⟨gA, 0, none⟩) (S.size + 1) capA)) _) (OwnFrom.and (Own.from (Ythblnnboeikgcaa.Round.allB_own _ _ _) _) (OwnFrom.and (Own.from (Ythblnnboeikgcaa.Round.blk_own _ _ rfl) _) (OwnFrom.and (Own.from (Ythblnnboeikgcaa.Round.blk_own _ _ rfl) _) (OwnFrom.and (ownFrom_below (Nat.le_refl _) HB5.out.size) (Ythblnnboeikgcaa.Round.ownFrom_size _ _))))))
    (fun _ _ _ _ _ hs _ _ => hs)
    ⟨KB5.out, HA5.out, KC5.out, KV5.out, HB5.out, Nat.le_refl _⟩
    ?a1 ?assign ?body ?done ?stop
  case assign =>
    intro l x W K hK
    gi_wp2
    exact hK
  case body =>
    rintro l pre x W ⟨hv, hA, hKC, hKV, hB, hz⟩ hlt
    have HV := Sd.mk hv
    have HA := Sd.mk hA
    have HKC := Sd.mk hKC
    have HKV := Sd.mk hKV
    clear hv hA hKC hKV
    have hgl := HA.out.lt
    have hlen := pipe_Move.run_len a0_0 a0_1 a0_2 a0_3 a0_4 a0_5 a0_6 a0_7 a0_8 a0_9 l0_10 l2 S (pre.map (fun x : Fin m => x.val))
    have hby := pipe_Move.run_bytes a0_0 a0_1 a0_2 a0_3 a0_4 a0_5 a0_6 a0_7 a0_8 a0_9 l0_10 l2 S (pre.map (fun x : Fin m => x.val))
    have hsn := pipe_Move.run_snoc a0_0 a0_1 a0_2 a0_3 a0_4 a0_5 a0_6 a0_7 a0_8 a0_9 l0_10 l2 S (pre.map (fun x : Fin m => x.val)) x.val
    have hii : pipe_Move.ix a0_2 x.val = ((x.val : Int) * a0_2 + a0_2).toNat := rfl
    obtain ⟨hj0, hj1⟩ := HJ.out x
    have hHH := HH.out x
    have hS60 := HZ.out
    have hd1 := HD.out.1
    unfold pipe_Move.st at hsn
    rw [hii] at hsn
    generalize pipe_Move.run a0_0 a0_1 a0_2 a0_3 a0_4 a0_5 a0_6 a0_7 a0_8 a0_9 l0_10 l2 S (pre.map (fun x : Fin m => x.val)) = L at HA hlen hby hsn
    have hy0 : 0 ≤ (x.val : Int) * a0_2 + a0_2 := by omega
    have hy1 : (x.val : Int) * a0_2 + a0_2 < (S.size : Int) + 1 := by omega
    have hin : ((x.val : Int) * a0_2 + a0_2).toNat < L.length := by rw [hlen]; omega
    have hwr : wrap64 ((x.val : Int) * a0_2 + a0_2) = (x.val : Int) * a0_2 + a0_2 := Go.Proofs.Ythblnnboeikgcaa.ConfLib.wrap_small (by omega) (by omega)
    have HR9 := Sd.mk (Kd.C_below HR.out hB)
    have HV9 := Sd.mk (Kd.C_below HR2.out hB)
    have hba := HV.out.cell
    have q0 : W.cell? ⟨w.heap.size, 0, none⟩ = some (.int .i64 a0_0) := (blk_cell HKC.out 0).trans rfl
    have q1 : W.cell? ⟨w.heap.size, 1, none⟩ = some (.int .i64 a0_1) := (blk_cell HKC.out 1).trans rfl
    have q2 : W.cell? ⟨w.heap.size, 2, none⟩ = some (.int .i64 a0_2) := (blk_cell HKC.out 2).trans rfl
    have q3 : W.cell? ⟨w.heap.size, 3, none⟩ = some (.int .i64 a0_3) := (blk_cell HKC.out 3).trans rfl
    have q4 : W.cell? ⟨w.heap.size, 4, none⟩ = some (.int .i64 a0_4) := (blk_cell HKC.out 4).trans rfl
    have q5 : W.cell? ⟨w.heap.size, 5, none⟩ = some (.int .i64 a0_5) := (blk_cell HKC.out 5).trans rfl
    have q6 : W.cell? ⟨w.heap.size, 6, none⟩ = some (.int .i64 a0_6) := (blk_cell HKC.out 6).trans rfl
    have q7 : W.cell? ⟨w.heap.size, 7, none⟩ = some (.int .i64 a0_7) := (blk_cell HKC.out 7).trans rfl
    have q8 : W.cell? ⟨w.heap.size, 8, none⟩ = some (.int .i64 a0_8) := (blk_cell HKC.out 8).trans rfl
    have q9 : W.cell? ⟨w.heap.size, 9, none⟩ = some (.int .i64 a0_9) := (blk_cell HKC.out 9).trans rfl
    have q10 : W.cell? ⟨w.heap.size, 10, none⟩ = some (.slice A0_10 l0_10.length c0_10) := (blk_cell HKC.out 10).trans rfl
    have qv : W.cell? ⟨w.heap.size + 1, 0, none⟩ = some (.slice A2 l2.length c2) := (blk_cell HKV.out 0).trans rfl
    have hcell := HA.out.cell hin
    have hfr : W.frozen? ⟨gA, ((x.val : Int) * a0_2 + a0_2).toNat, none⟩ = false := HA.out.frozen
    have HHX := Sd.mk (hHH (L.getD ((x.val : Int) * a0_2 + a0_2).toNat 0) (hby _).1 (hby _).2)
    have HIN := Sd.mk hin
    have HSN2 := Sd.mk hsn
    have HLEN := Sd.mk hlen
    clear hHH hsn hby hin hlen hii
    gi_wp2
    refine Ythblnnboeikgcaa.Round.start_in (m := 12) (S := fun w' => w'.cell? ⟨w4.heap.size, 0, none⟩ = some (.slice (some ⟨gA, 0, none⟩) (S.size + 1) capA) ∧ w'.cell? ⟨w.heap.size, 0, none⟩ = some (.int .i64 a0_0) ∧ w'.cell? ⟨w.heap.size, 1, none⟩ = some (.int .i64 a0_1) ∧ w'.cell? ⟨w.heap.size, 2, none⟩ = some (.int .i64 a0_2) ∧ w'.cell? ⟨w.heap.size, 3, none⟩ = some (.int .i64 a0_3) ∧ w'.cell? ⟨w.heap.size, 4, none⟩ = some (.int .i64 a0_4) ∧ w'.cell? ⟨w.heap.size, 5, none⟩ = some (.int .i64 a0_5) ∧ w'.cell? ⟨w.heap.size, 6, none⟩ = some (.int .i64 a0_6) ∧ w'.cell? ⟨w.heap.size, 7, none⟩ = some (.int .i64 a0_7) ∧ w'.cell? ⟨w.heap.size, 8, none⟩ = some (.int .i64 a0_8) ∧ w'.cell? ⟨w.heap.size, 9, none⟩ = some (.int .i64 a0_9) ∧ w'.cell? ⟨w.heap.size, 10, none⟩ = some (.slice A0_10 l0_10.length c0_10) ∧ w'.cell? ⟨w.heap.size + 1, 0, none⟩ = some (.slice A2 l2.length c2) ∧ w'.cell? ⟨gA, ((x.val : Int) * a0_2 + a0_2).toNat, none⟩ = some (.int .u8 (L.getD ((x.val : Int) * a0_2 + a0_2).toNat 0))) (ds := [11]) #[false,false,false,false,false,false,false,false,false,false,false,false] (by kernel_rfl) (by rintro ⟨_, _, q⟩; exact q) (by kernel_rfl) rfl rfl ⟨hba, q0, q1, q2, q3, q4, q5, q6, q7, q8, q9, q10, qv, hcell⟩ (fun hHeld => ?_)
    refine pure_ (i := 1) (N := some 33) (v := ?_) (a' := ?_) #[false,true,false,false,false,false,false,false,false,false,false,false] rfl rfl (by kernel_rfl) (fun _ _ _ h => h) (Or.inl ⟨by rfl, ?_⟩) ?_ ?_
    rotate_left
    · intro w'
      go_simp
      with_reducible rfl
    rotate_left
    · simp only [Act.put, List.setIfInBounds_toArray, List.set_cons_zero, List.set_cons_succ, i64_w, i32_w]
      rfl
    refine pure_ (i := 3) (N := some 35) (v := ?_) (a' := ?_) #[false,true,false,true,false,false,false,false,false,false,false,false] rfl rfl (by kernel_rfl) (fun _ _ _ h => h) (Or.inl ⟨by rfl, ?_⟩) ?_ ?_
    rotate_left
    · intro w'
      go_simp
      with_reducible rfl
    rotate_left
    · simp only [Act.put, List.setIfInBounds_toArray, List.set_cons_zero, List.set_cons_succ, i64_w, i32_w]
      rfl
    refine pure_ (i := 5) (N := some 37) (v := ?_) (a' := ?_) #[false,true,false,true,false,true,false,false,false,false,false,false] rfl rfl (by kernel_rfl) (fun _ _ _ h => h) (Or.inl ⟨by rfl, ?_⟩) ?_ ?_
    rotate_left
    · intro w'
      go_simp
      with_reducible rfl
    rotate_left
    · simp only [Act.put, List.setIfInBounds_toArray, List.set_cons_zero, List.set_cons_succ, i64_w, i32_w]
      rfl
    refine take_ (i := 0) (N := some 32) (v := ?_) (a' := ?_) #[true,true,false,true,false,true,false,false,false,false,false,false] rfl rfl (by kernel_rfl) (fun _ _ _ h => h) (Or.inl ⟨by rfl, ?_⟩) hHeld ?_ ?_
    rotate_left
    · rintro w' ⟨s0, s1, s2, s3, s4, s5, s6, s7, s8, s9, s10, s11, s12, s13⟩
      go_simp
      with_reducible rfl
    rotate_left
    · simp only [Act.put, List.setIfInBounds_toArray, List.set_cons_zero, List.set_cons_succ, i64_w, i32_w]
      rfl
    refine take_ (i := 2) (N := some 34) (v := ?_) (a' := ?_) #[true,true,true,true,false,true,false,false,false,false,false,false] rfl rfl (by kernel_rfl) (fun _ _ _ h => h) (Or.inl ⟨by rfl, ?_⟩) hHeld ?_ ?_
    rotate_left
    · rintro w' ⟨s0, s1, s2, s3, s4, s5, s6, s7, s8, s9, s10, s11, s12, s13⟩
      go_simp
      with_reducible rfl
    rotate_left
    · simp only [Act.put, List.setIfInBounds_toArray, List.set_cons_zero, List.set_cons_succ, i64_w, i32_w]
      rfl
    refine take_ (i := 4) (N := some 36) (v := ?_) (a' := ?_) #[true,true,true,true,true,true,false,false,false,false,false,false] rfl rfl (by kernel_rfl) (fun _ _ _ h => h) (Or.inl ⟨by rfl, ?_⟩) hHeld ?_ ?_
    rotate_left
    · rintro w' ⟨s0, s1, s2, s3, s4, s5, s6, s7, s8, s9, s10, s11, s12, s13⟩
      go_simp
      with_reducible rfl
    rotate_left
    · simp only [Act.put, List.setIfInBounds_toArray, List.set_cons_zero, List.set_cons_succ, i64_w, i32_w]
      rfl
    refine pure_ (i := 6) (N := some 38) (v := ?_) (a' := ?_) #[true,true,true,true,true,true,true,false,false,false,false,false] rfl rfl (by kernel_rfl) (fun _ _ _ h => h) (Or.inl ⟨by rfl, ?_⟩) ?_ ?_
    rotate_left
    · intro w'
      go_simp
      with_reducible rfl
    rotate_left
    · simp only [Act.put, List.setIfInBounds_toArray, List.set_cons_zero, List.set_cons_succ, i64_w, i32_w]
      rfl
    refine take_ (i := 7) (N := some 39) (v := ?_) (a' := ?_) #[true,true,true,true,true,true,true,true,false,false,false,false] rfl rfl (by kernel_rfl) (fun _ _ _ h => h) (Or.inl ⟨by rfl, ?_⟩) hHeld ?_ ?_
    rotate_left
    · rintro w' ⟨s0, s1, s2, s3, s4, s5, s6, s7, s8, s9, s10, s11, s12, s13⟩
      go_simp
      with_reducible rfl
    rotate_left
    · simp only [Act.put, List.setIfInBounds_toArray, List.set_cons_zero, List.set_cons_succ, i64_w, i32_w]
      rfl
    refine take_ (i := 8) (N := some 40) (v := ?_) (a' := ?_) #[true,true,true,true,true,true,true,true,true,false,false,false] rfl rfl (by kernel_rfl) (fun _ _ _ h => h) (Or.inl ⟨by rfl, ?_⟩) hHeld ?_ ?_
    rotate_left
    · rintro w' ⟨s0, s1, s2, s3, s4, s5, s6, s7, s8, s9, s10, s11, s12, s13⟩
      go_simp
      with_reducible rfl
    rotate_left
    · simp only [Act.put, List.setIfInBounds_toArray, List.set_cons_zero, List.set_cons_succ, i64_w, i32_w]
      rfl
    refine one_ (i := 9) (N := some 41) #[true,true,true,true,true,true,true,true,true,true,false,false] rfl rfl (by kernel_rfl) (by decide) (fun K hK => ?_)
    refine goes_ Try.func91 (by kernel_rfl) rfl #[.agg #[.int .i64 a0_0, .int .i64 a0_1, .int .i64 a0_2, .int .i64 a0_3, .int .i64 a0_4, .int .i64 a0_5, .int .i64 a0_6, .int .i64 a0_7, .int .i64 a0_8, .int .i64 a0_9, .slice A0_10 l0_10.length c0_10], .int .i64 (x.val : Int), .int .u8 (L.getD ((x.val : Int) * a0_2 + a0_2).toNat 0), .slice A2 l2.length c2] (by rfl) rfl rfl (by simp only [List.map_toArray, List.map_cons, List.map_nil]; rfl) ?_
    with_reducible refine (pipe_hear.calls k a0_0 a0_1 a0_2 a0_3 a0_4 a0_5 a0_6 a0_7 a0_8 a0_9 _ _ l0_10 (x.val : Int) (L.getD ((x.val : Int) * a0_2 + a0_2).toNat 0) _ _ l2 (Go.Proofs.Ythblnnboeikgcaa.PipeLib.hearV a0_0 a0_1 a0_2 a0_3 a0_4 a0_5 a0_6 a0_7 a0_8 a0_9 l0_10 x.val (L.getD ((x.val : Int) * a0_2 + a0_2).toNat 0) l2) _ (Kd.C_below HR9.out (below_drew1 (Below.refl _ _))) HC.out (Kd.C_below HV9.out (below_drew1 (Below.refl _ _))) HC2.out HHX.out).mono ?_
    rintro e' w9 ⟨rfl, hb⟩
    refine ⟨_, rfl, ?_⟩
    have hb9 : Below W.heap.size W w9 := (below_drew1 (Below.refl W.heap.size W)).trans hb
    obtain ⟨hk9, hs9, hbl9⟩ := Ythblnnboeikgcaa.Round.step_ (g := gA) (i := ((x.val : Int) * a0_2 + a0_2).toNat) (.int .u8 (Go.Proofs.Ythblnnboeikgcaa.PipeLib.hearV a0_0 a0_1 a0_2 a0_3 a0_4 a0_5 a0_6 a0_7 a0_8 a0_9 l0_10 x.val (L.getD ((x.val : Int) * a0_2 + a0_2).toNat 0) l2)) hb9
    have hA9 : Ythblnnboeikgcaa.Round.AllB 5 w9 gA L := HA.out.same (hb9.block gA hgl)
    have hc9 := hA9.cell HIN.out
    have hf9 : w9.frozen? ⟨gA, ((x.val : Int) * a0_2 + a0_2).toNat, none⟩ = false := hA9.frozen
    refine hK.out _ _ ⟨pw_cell_below hb9 hba, pw_cell_below hb9 q0, pw_cell_below hb9 q1, pw_cell_below hb9 q2, pw_cell_below hb9 q3, pw_cell_below hb9 q4, pw_cell_below hb9 q5, pw_cell_below hb9 q6, pw_cell_below hb9 q7, pw_cell_below hb9 q8, pw_cell_below hb9 q9, pw_cell_below hb9 q10, pw_cell_below hb9 qv, pw_cell_below hb9 hcell⟩ (fun hHeld => ?_)
    clear hK K
    refine norm_ (a' := ?_) ?_ ?_
    rotate_left
    · show Act.put _ (some 41) _ = _
      simp only [Act.put, List.setIfInBounds_toArray, List.set_cons_zero, List.set_cons_succ, i64_w, i32_w]
      rfl
    refine pure_ (i := 10) (N := some 42) (v := ?_) (a' := ?_) #[true,true,true,true,true,true,true,true,true,true,true,false] rfl rfl (by kernel_rfl) (fun _ _ _ h => h) (Or.inl ⟨by rfl, ?_⟩) ?_ ?_
    rotate_left
    · intro w'
      go_simp
      with_reducible rfl
    rotate_left
    · simp only [Act.put, List.setIfInBounds_toArray, List.set_cons_zero, List.set_cons_succ, i64_w, i32_w]
      rfl
    refine last_ (i := 11) (N := none) #[true,true,true,true,true,true,true,true,true,true,true,true] rfl rfl (by kernel_rfl) (by decide) (fun K hK => ?_)
    refine skip_ (w1 := ?_) (by rfl) rfl ?_ ?_
    rotate_left
    · go_simp
      rfl
    refine hK.out _ _ ?_
    clear hK K
    refine done_ (by kernel_rfl) ?_
    have h8 := HL1.out
    have h9 := HL2.out
    have h10 := HS5.out
    have h11 := HA4.out.lt
    have h12 := HGA.out
    have h13 := HNE.out
    gi_wp2
    refine ⟨hk9.from _, ⟨hs9 b1 (by omega) (by omega), hs9 b2 (by omega) (by omega)⟩, (hs9 _ (by omega) (by omega)).trans HV.out, ?_, (hs9 _ (by omega) (by omega)).trans HKC.out, (hs9 _ (by omega) (by omega)).trans HKV.out, hB.trans (hbl9 _ (by omega) hB.size), Nat.le_trans hz hk9.size⟩
    rw [List.map_append]
    show Ythblnnboeikgcaa.Round.AllB _ _ _ (pipe_Move.run _ _ _ _ _ _ _ _ _ _ _ _ _ (_ ++ [x.val]))
    rw [HSN2.out]
    exact hA9.set HIN.out _
  case done =>
    rintro D ys W hD hys ⟨hv, hA, -, -, hB, -⟩ hK
    have hys2 : ys.map (fun x : Fin m => x.val) = List.range m := hys
    rw [hys2] at hA
    have hlen := pipe_Move.run_len a0_0 a0_1 a0_2 a0_3 a0_4 a0_5 a0_6 a0_7 a0_8 a0_9 l0_10 l2 S (List.range m)
    have hby := pipe_Move.run_bytes a0_0 a0_1 a0_2 a0_3 a0_4 a0_5 a0_6 a0_7 a0_8 a0_9 l0_10 l2 S (List.range m) S.size
    have ho := HO.out
    generalize pipe_Move.run a0_0 a0_1 a0_2 a0_3 a0_4 a0_5 a0_6 a0_7 a0_8 a0_9 l0_10 l2 S (List.range m) = L at hA hlen hby ho
    unfold pipe_Move.out at ho
    obtain ⟨v, hv2, ho2⟩ := Option.bind_eq_some_iff.mp ho
    have HO2 := Sd.mk ho2
    clear ho ho2
    have HVV := Sd.mk hv2
    have hba := hv.cell
    have hcell := hA.cell (i := S.size) (by omega)
    have HA := Sd.mk hA
    have HK := Sd.mk hK
    have HDD := Sd.mk hD
    have HBW := Sd.mk hB
    have HLEN := Sd.mk hlen
    have hS60 := HZ.out
    have hcA := HCA.out
    have hs0 : (0 : Int) ≤ (S.size : Int) := by omega
    have hs1 : (S.size : Int) ≤ (capA : Int) := by omega
    have hs2 : (S.size : Int) < (S.size : Int) + 1 := by omega
    have hAn : Ythblnnboeikgcaa.Round.AllB 5 ((W.alloc (.cells #[.int .u8 (L.getD S.size 0)] 5)).drew) W.heap.size [L.getD S.size 0] := ⟨_, World.alloc_heap_new W _, fun j hj => by obtain rfl : j = 0 := (by simpa using hj); rfl⟩
    have kc1 : (convert 67 9 (.slice (some ⟨W.heap.size, 0, none⟩) 1 1)).run Try.prog ((W.alloc (.cells #[.int .u8 (L.getD S.size 0)] 5)).drew) = .ok (.string (strOfNums [L.getD S.size 0])) ((W.alloc (.cells #[.int .u8 (L.getD S.size 0)] 5)).drew) := string_of_reads (e := 5) Try.underlying67 Try.underlying5 Try.underlying9 (hAn.reads 1 (Nat.le_refl _) (by simp))
    clear hv hA hK hD hB hv2 hlen hys hys2 hAn
    generalize L.getD S.size 0 = y at *
    go_wp2
    refine Ythblnnboeikgcaa.Round.np_wp ?_
    refine start_ (n := 10) (S := fun w' => w'.cell? ⟨w4.heap.size, 0, none⟩ = some (.slice (some ⟨gA, 0, none⟩) (S.size + 1) capA) ∧ w'.cell? ⟨gA, S.size, none⟩ = some (.int .u8 y)) (ds := []) #[false,false,false,false,false,false,false,false,false,false] (by kernel_rfl) rfl rfl ⟨hba, hcell⟩ (fun hHeld => ?_)
    refine pure_ (i := 1) (N := some 44) (v := ?_) (a' := ?_) #[false,true,false,false,false,false,false,false,false,false] rfl rfl (by kernel_rfl) (fun _ _ _ h => h) (Or.inl ⟨by rfl, ?_⟩) ?_ ?_
    rotate_left
    · intro w'
      go_simp
      with_reducible rfl
    rotate_left
    · simp only [Act.put, List.setIfInBounds_toArray, List.set_cons_zero, List.set_cons_succ, i64_w, i32_w]
      rfl
    refine pure_ (i := 2) (N := some 45) (v := ?_) (a' := ?_) #[false,true,true,false,false,false,false,false,false,false] rfl rfl (by kernel_rfl) (fun _ _ _ h => h) (Or.inl ⟨by rfl, ?_⟩) ?_ ?_
    rotate_left
    · intro w'
      go_simp
      with_reducible rfl
    rotate_left
    · simp only [Act.put, List.setIfInBounds_toArray, List.set_cons_zero, List.set_cons_succ, i64_w, i32_w]
      rfl
    refine pure_ (i := 5) (N := some 48) (v := ?_) (a' := ?_) #[false,true,true,false,false,true,false,false,false,false] rfl rfl (by kernel_rfl) (fun _ _ _ h => h) (Or.inl ⟨by rfl, ?_⟩) ?_ ?_
    rotate_left
    · intro w'
      go_simp
      with_reducible rfl
    rotate_left
    · simp only [Act.put, List.setIfInBounds_toArray, List.set_cons_zero, List.set_cons_succ, i64_w, i32_w]
      rfl
    refine take_ (i := 0) (N := some 43) (v := ?_) (a' := ?_) #[true,true,true,false,false,true,false,false,false,false] rfl rfl (by kernel_rfl) (fun _ _ _ h => h) (Or.inl ⟨by rfl, ?_⟩) hHeld ?_ ?_
    rotate_left
    · rintro w' ⟨s0, s1⟩
      go_simp
      with_reducible rfl
    rotate_left
    · simp only [Act.put, List.setIfInBounds_toArray, List.set_cons_zero, List.set_cons_succ, i64_w, i32_w]
      rfl
    refine pure_ (i := 3) (N := some 46) (v := ?_) (a' := ?_) #[true,true,true,true,false,true,false,false,false,false] rfl rfl (by kernel_rfl) (fun _ _ _ h => h) (Or.inl ⟨by rfl, ?_⟩) ?_ ?_
    rotate_left
    · intro w'
      go_simp
      with_reducible rfl
    rotate_left
    · simp only [Act.put, List.setIfInBounds_toArray, List.set_cons_zero, List.set_cons_succ, i64_w, i32_w]
      rfl
    refine pure_ (i := 8) (N := some 12) (v := ?_) (a' := ?_) #[true,true,true,true,false,true,false,false,true,false] rfl rfl (by kernel_rfl) (fun _ _ _ h => h) (Or.inl ⟨by rfl, ?_⟩) ?_ ?_
    rotate_left
    · intro w'
      go_simp
      with_reducible rfl
    rotate_left
    · simp only [Act.put, List.setIfInBounds_toArray, List.set_cons_zero, List.set_cons_succ, i64_w, i32_w]
      rfl
    refine take_ (i := 4) (N := some 47) (v := ?_) (a' := ?_) #[true,true,true,true,true,true,false,false,true,false] rfl rfl (by kernel_rfl) (fun _ _ _ h => h) (Or.inl ⟨by rfl, ?_⟩) hHeld ?_ ?_
    rotate_left
    · rintro w' ⟨s0, s1⟩
      go_simp
      with_reducible rfl
    rotate_left
    · simp only [Act.put, List.setIfInBounds_toArray, List.set_cons_zero, List.set_cons_succ, i64_w, i32_w]
      rfl
    refine pure_ (i := 6) (N := some 49) (v := ?_) (a' := ?_) #[true,true,true,true,true,true,true,false,true,false] rfl rfl (by kernel_rfl) (fun _ _ _ h => h) (Or.inl ⟨by rfl, ?_⟩) ?_ ?_
    rotate_left
    · intro w'
      go_simp
      with_reducible rfl
    rotate_left
    · simp only [Act.put, List.setIfInBounds_toArray, List.set_cons_zero, List.set_cons_succ, i64_w, i32_w]
      rfl
    refine take_ (i := 7) (N := some 50) (v := ?_) (a' := ?_) #[true,true,true,true,true,true,true,true,true,false] rfl rfl (by kernel_rfl) (fun _ _ _ h => h) (Or.inl ⟨by rfl, ?_⟩) hHeld ?_ ?_
    rotate_left
    · rintro w' ⟨s0, s1⟩
      go_simp
      with_reducible rfl
    rotate_left
    · simp only [Act.put, List.setIfInBounds_toArray, List.set_cons_zero, List.set_cons_succ, i64_w, i32_w]
      rfl
    refine pure_ (i := 9) (N := some 13) (v := ?_) (a' := ?_) #[true,true,true,true,true,true,true,true,true,true] rfl rfl (by kernel_rfl) (fun _ _ _ h => h) (Or.inl ⟨by rfl, ?_⟩) ?_ ?_
    rotate_left
    · intro w'
      go_simp
      with_reducible rfl
    rotate_left
    · simp only [Act.put, List.setIfInBounds_toArray, List.set_cons_zero, List.set_cons_succ, i64_w, i32_w]
      rfl
    refine done_ (by kernel_rfl) ?_
    refine Ythblnnboeikgcaa.Round.np_normal ?_
    go_wp2_with (first | (go_at_call 56; (with_reducible refine (vec_Values.calls _ v _ HVV.out).mono ?_); rintro e' w7 ⟨rfl, hb⟩; have hbw : Below W.heap.size W w7 := (below_drew1 ((Below.refl W.heap.size W).alloc (Nat.le_refl _) _)).trans (hb.mono (by show W.heap.size ≤ (W.alloc _).heap.size; rw [World.size_alloc]; exact Nat.le_succ _)); have HBW7 := Sd.mk hbw; have kc2 : (convert 67 9 (.slice (some ⟨gA, 0, none⟩) S.size S.size)).run Try.prog w7 = .ok (.string (strOfNums (L.take S.size))) w7 := string_of_reads (e := 5) Try.underlying67 Try.underlying5 Try.underlying9 ((HA.out.same (hbw.block gA HA.out.lt)).reads S.size (Nat.le_trans (Nat.le_succ _) (Nat.le_of_eq HLEN.out.symm)) (by rw [HLEN.out]; omega)); clear hb hbw))
    · have h49 : (v.toList == [49]) = true := by assumption
      have e49 : v = ⟨#[49]⟩ := Go.Proofs.Ythblnnboeikgcaa.Bytes.ext_iff.1 ((by simpa using h49 : v.toList = [49]).trans (by decide +kernel))
      have ho := HO2.out
      rw [if_pos e49] at ho
      cases ho
      have hK7 := (HBW7.out.block D (Array.getElem?_eq_some_iff.1 HK.out).1).trans HK.out
      refine ⟨by simp, .inl ⟨_, _, rfl, run_takeDeferred hK7, ?_⟩⟩
      exact ⟨_, results_tmp2 rfl _ _ _, rfl, (HBW.out.trans (HBW7.out.mono HBW.out.size)).trans (belowK_b (w := w) (Nat.le_refl _) w7 D _ _ (Nat.le_trans HB5.out.size HDD.out) hK7 rfl rfl)⟩
    · have h49 : (v.toList == [49]) = false := by assumption
      have e49 : ¬ v = ⟨#[49]⟩ := fun e => by subst e; exact absurd h49 (by decide +kernel)
      have ho := HO2.out
      rw [if_neg e49] at ho
      cases ho
      have hK7 := (HBW7.out.block D (Array.getElem?_eq_some_iff.1 HK.out).1).trans HK.out
      refine ⟨by simp, .inl ⟨_, _, rfl, run_takeDeferred hK7, ?_⟩⟩
      exact ⟨_, results_tmp2 rfl _ _ _, rfl, (HBW.out.trans (HBW7.out.mono HBW.out.size)).trans (belowK_b (w := w) (Nat.le_refl _) w7 D _ _ (Nat.le_trans HB5.out.size HDD.out) hK7 rfl rfl)⟩
  case stop =>
    rintro D c pre W _ _ h _
    exact h.elim
end Go.Proofs.Ythblnnboeikgcaa.B
