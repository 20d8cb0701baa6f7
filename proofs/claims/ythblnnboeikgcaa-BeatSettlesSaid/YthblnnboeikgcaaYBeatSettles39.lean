import Derived.Test.YthblnnboeikgcaaYBeatSettles12
import Derived.Laws.IdiomStrings
import Derived.Test.YthblnnboeikgcaaYBeatSettles38
set_option maxHeartbeats 8000000
set_option maxRecDepth 100000
namespace Go.Proofs.Ythblnnboeikgcaa.B
open Go.RowKit Go.Proofs.YthblnnboeikgcaaW.PrintWords Go.Proofs.YthblnnboeikgcaaW.PrintLast Go.Proofs.YthblnnboeikgcaaW.PrintMore
attribute [local go_sem] max2_int min2_int max_two min_two max_three min_three max_four min_four   -- for this text's walks alone
set_option linter.unusedVariables false
set_option linter.unusedSimpArgs false
def beat_Alone.bits (s : ByteArray) (n : Nat) : List Int := (List.range n).map (fun (j : Nat) => if j < s.size ∧ bt s (j : Int) = 49 then 1 else 0)
def beat_Alone.go (k : Nat) (a0_0 a0_1 a0_2 a0_3 a0_4 a0_5 a0_6 a0_7 a0_8 a0_9 : Int) (l0_10 : List Int) : Nat → Int → List Int → List Int → Option (List Int)
  | 0, _, _, out => some out
  | _ + 1, _, [], _ => none
  | q + 1, s, x :: L, out => if 0 ≤ x ∧ x ≤ 1 then (beat_Next.f k a0_0 a0_1 a0_2 a0_3 a0_4 a0_5 a0_6 a0_7 a0_8 a0_9 l0_10 s 0 (x == 1)).bind fun n2 => (beat_Bit.f k a0_0 a0_1 a0_2 a0_3 a0_4 a0_5 a0_6 a0_7 a0_8 a0_9 l0_10 n2.1).bind fun b => beat_Alone.go k a0_0 a0_1 a0_2 a0_3 a0_4 a0_5 a0_6 a0_7 a0_8 a0_9 l0_10 q n2.1 (L ++ [b]) (out ++ [48 + x]) else none
def beat_Alone.f (k : Nat) (a0_0 a0_1 a0_2 a0_3 a0_4 a0_5 a0_6 a0_7 a0_8 a0_9 : Int) (l0_10 : List Int) (a1 : Int) (a2 : ByteArray) (a3 : Int) : Option ByteArray := (conf_Plain.f k a0_0 a0_1 a0_2 a0_3 a0_4 a0_5 a0_6 a0_7 a0_8 a0_9 l0_10).bind fun e => if e = 0 then (conf_Length.f k a0_0 a0_1 a0_2 a0_3 a0_4 a0_5 a0_6 a0_7 a0_8 a0_9 l0_10).bind fun n => (num_Clamp.f k a3 0 2000).bind fun m => if 0 ≤ n ∧ n ≤ 1000 ∧ 0 ≤ m ∧ m ≤ 2000 then (beat_Alone.go k a0_0 a0_1 a0_2 a0_3 a0_4 a0_5 a0_6 a0_7 a0_8 a0_9 l0_10 m.toNat a1 (beat_Alone.bits a2 n.toNat) []).bind fun out => some (strOfNums out) else none else some (⟨#[]⟩ : ByteArray)
theorem beat_Alone.go_mono (a0_0 a0_1 a0_2 a0_3 a0_4 a0_5 a0_6 a0_7 a0_8 a0_9 : Int) (l0_10 : List Int) (k : Nat) : ∀ q s L out, LeO (beat_Alone.go k a0_0 a0_1 a0_2 a0_3 a0_4 a0_5 a0_6 a0_7 a0_8 a0_9 l0_10 q s L out) (beat_Alone.go (k + 1) a0_0 a0_1 a0_2 a0_3 a0_4 a0_5 a0_6 a0_7 a0_8 a0_9 l0_10 q s L out)
  | 0, _, _, _ => LeO.refl _
  | q + 1, s, [], out => LeO.none _
  | q + 1, s, x :: L, out => by
    unfold beat_Alone.go
    exact LeO.ite (LeO.bind (beat_Next.mono _ _ _ _ _ _ _ _ _ _ _ _ _ _ _) (fun _ => LeO.bind (beat_Bit.mono _ _ _ _ _ _ _ _ _ _ _ _ _) (fun _ => beat_Alone.go_mono a0_0 a0_1 a0_2 a0_3 a0_4 a0_5 a0_6 a0_7 a0_8 a0_9 l0_10 k q _ _ _))) (LeO.none _)
theorem beat_Alone.mono : ∀ a0 a1 a2 a3 a4 a5 a6 a7 a8 a9 a10 a11 a12 a13 k, LeO (beat_Alone.f k a0 a1 a2 a3 a4 a5 a6 a7 a8 a9 a10 a11 a12 a13) (beat_Alone.f (k + 1) a0 a1 a2 a3 a4 a5 a6 a7 a8 a9 a10 a11 a12 a13) := by
  intro a0 a1 a2 a3 a4 a5 a6 a7 a8 a9 a10 a11 a12 a13 k
  unfold beat_Alone.f
  exact LeO.bind (conf_Plain.mono _ _ _ _ _ _ _ _ _ _ _ _) (fun _ => LeO.ite (LeO.bind (conf_Length.mono _ _ _ _ _ _ _ _ _ _ _ _) (fun _ => LeO.bind (num_Clamp.mono _ _ _ _) (fun _ => LeO.ite (LeO.bind (beat_Alone.go_mono _ _ _ _ _ _ _ _ _ _ _ k _ _ _ _) (fun _ => LeO.refl _)) (LeO.refl _)))) (LeO.refl _))
theorem beat_Alone.bits_len (s : ByteArray) (n : Nat) : (beat_Alone.bits s n).length = n := by simp [beat_Alone.bits]
theorem beat_Alone.bits_snoc (s : ByteArray) {n j : Nat} (hj : j < n) : (beat_Alone.bits s n).take j ++ [if j < s.size ∧ bt s (j : Int) = 49 then 1 else 0] = (beat_Alone.bits s n).take (j + 1) := by
  rw [List.take_succ_eq_append_getElem (by rw [beat_Alone.bits_len]; exact hj)]
  simp [beat_Alone.bits]
theorem beat_Alone.row_kept {W W' : World} {B base : Nat} {cs : Array Value} {v u : Value} {L : List Int} {k : Nat} {xs : List Value} (h : W.ownsRow base 5 1 u k xs) (hA : W.heap[B]? = some (.cells cs 117 (0, 0))) (hQ : Ythblnnboeikgcaa.Queue.Q 3 W base v L) (hk : Ythblnnboeikgcaa.Queue.Keeps W W' B v) : W'.ownsRow base 5 1 u k xs := by
  refine Ythblnnboeikgcaa.Round.own_same h (fun g hg => ?_)
  obtain ⟨cur, hcur⟩ := Ythblnnboeikgcaa.Round.own_typed h g hg
  refine hk.block g (Array.getElem?_eq_some_iff.1 hcur).1 (fun e => ?_) (fun e => ?_)
  · subst e
    rw [hcur] at hA
    cases hA
  · obtain ⟨cur2, hcur2⟩ := hQ.block g e
    rw [hcur] at hcur2
    cases hcur2
theorem beat_Alone.calls (k : Nat) (a0_0 a0_1 a0_2 a0_3 a0_4 a0_5 a0_6 a0_7 a0_8 a0_9 : Int) (A0_10 : Option Addr) (c0_10 : Nat) (l0_10 : List Int) (a1 : Int) (a2 : ByteArray) (a3 : Int) (r : ByteArray) (w : World) (hr0_10 : Kd.C (Kd.int .i64) w A0_10 l0_10.length l0_10) (hc0_10 : l0_10.length ≤ c0_10) (h : beat_Alone.f k a0_0 a0_1 a0_2 a0_3 a0_4 a0_5 a0_6 a0_7 a0_8 a0_9 l0_10 a1 a2 a3 = some r) :
    Calls Try.prog 49 #[.agg #[.int .i64 a0_0, .int .i64 a0_1, .int .i64 a0_2, .int .i64 a0_3, .int .i64 a0_4, .int .i64 a0_5, .int .i64 a0_6, .int .i64 a0_7, .int .i64 a0_8, .int .i64 a0_9, .slice A0_10 l0_10.length c0_10], .int .i64 a1, .string a2, .int .i64 a3] w fun e w' => e = .returned (.string r) ∧ Below w.heap.size w w' := by
  have HR := Sd.mk hr0_10
  have HC := Sd.mk hc0_10
  clear hr0_10 hc0_10
  unfold beat_Alone.f at h
  obtain ⟨e, he, h⟩ := Option.bind_eq_some_iff.mp h
  have HP := Sd.mk he
  clear he
  by_cases d1 : e = 0
  case neg =>
    rw [if_neg d1] at h
    obtain rfl := Option.some.inj h
    have d1b : (e != 0) = true := by simpa using d1
    clear h d1
    go_enter Try.func49, Try.ntmps49
    go_wp2_with (go_at_call 59; (with_reducible refine (conf_Plain.calls k a0_0 a0_1 a0_2 a0_3 a0_4 a0_5 a0_6 a0_7 a0_8 a0_9 _ _ l0_10 e _ ?side1 ?side2 HP.out).mono ?_); (case side1 => exact Kd.C_alloc HR.out _); (case side2 => exact HC.out); rintro e' w1 ⟨rfl, hb⟩; have KC1 := Sd.mk (blk_below (blk_new w _) hb); have HB1 := Sd.mk (below_then (below_alloc (Below.refl _ w) _) (by simp) hb); clear hb; have q0 : w1.cell? ⟨w.heap.size, 0, none⟩ = some (.int .i64 a0_0) := (blk_cell KC1.out 0).trans rfl; have q1 : w1.cell? ⟨w.heap.size, 1, none⟩ = some (.int .i64 a0_1) := (blk_cell KC1.out 1).trans rfl; have q2 : w1.cell? ⟨w.heap.size, 2, none⟩ = some (.int .i64 a0_2) := (blk_cell KC1.out 2).trans rfl; have q3 : w1.cell? ⟨w.heap.size, 3, none⟩ = some (.int .i64 a0_3) := (blk_cell KC1.out 3).trans rfl; have q4 : w1.cell? ⟨w.heap.size, 4, none⟩ = some (.int .i64 a0_4) := (blk_cell KC1.out 4).trans rfl; have q5 : w1.cell? ⟨w.heap.size, 5, none⟩ = some (.int .i64 a0_5) := (blk_cell KC1.out 5).trans rfl; have q6 : w1.cell? ⟨w.heap.size, 6, none⟩ = some (.int .i64 a0_6) := (blk_cell KC1.out 6).trans rfl; have q7 : w1.cell? ⟨w.heap.size, 7, none⟩ = some (.int .i64 a0_7) := (blk_cell KC1.out 7).trans rfl; have q8 : w1.cell? ⟨w.heap.size, 8, none⟩ = some (.int .i64 a0_8) := (blk_cell KC1.out 8).trans rfl; have q9 : w1.cell? ⟨w.heap.size, 9, none⟩ = some (.int .i64 a0_9) := (blk_cell KC1.out 9).trans rfl; have q10 : w1.cell? ⟨w.heap.size, 10, none⟩ = some (.slice A0_10 l0_10.length c0_10) := (blk_cell KC1.out 10).trans rfl)
    go_ret
    exact ⟨rfl, HB1.out⟩
  subst d1
  rw [if_pos rfl] at h
  obtain ⟨n, hn, h⟩ := Option.bind_eq_some_iff.mp h
  obtain ⟨m, hm, h⟩ := Option.bind_eq_some_iff.mp h
  by_cases d2 : 0 ≤ n ∧ n ≤ 1000 ∧ 0 ≤ m ∧ m ≤ 2000
  case neg => rw [if_neg d2] at h; cases h
  rw [if_pos d2] at h
  obtain ⟨out, ho, h⟩ := Option.bind_eq_some_iff.mp h
  obtain rfl := Option.some.inj h
  obtain ⟨hn0, hn1, hm0, hm1⟩ := d2
  obtain ⟨n, rfl⟩ := Int.eq_ofNat_of_zero_le hn0
  obtain ⟨m, rfl⟩ := Int.eq_ofNat_of_zero_le hm0
  rw [Int.toNat_natCast, Int.toNat_natCast] at ho
  have HLN := Sd.mk hn
  have HCL := Sd.mk hm
  have HGO := Sd.mk ho
  have HN1 : Sd (n ≤ 1000) := ⟨by omega⟩
  have HM1 : Sd (m ≤ 2000) := ⟨by omega⟩
  clear h hn hm ho hn0 hn1 hm0 hm1
  go_enter Try.func49, Try.ntmps49
  go_upto_region 4 with (go_at_call 59; (with_reducible refine (conf_Plain.calls k a0_0 a0_1 a0_2 a0_3 a0_4 a0_5 a0_6 a0_7 a0_8 a0_9 _ _ l0_10 0 _ ?side1 ?side2 HP.out).mono ?_); (case side1 => exact Kd.C_alloc HR.out _); (case side2 => exact HC.out); rintro e' w1 ⟨rfl, hb⟩; have KC1 := Sd.mk (blk_below (blk_new w _) hb); have HB1 := Sd.mk (below_then (below_alloc (Below.refl _ w) _) (by simp) hb); clear hb; have q0 : w1.cell? ⟨w.heap.size, 0, none⟩ = some (.int .i64 a0_0) := (blk_cell KC1.out 0).trans rfl; have q1 : w1.cell? ⟨w.heap.size, 1, none⟩ = some (.int .i64 a0_1) := (blk_cell KC1.out 1).trans rfl; have q2 : w1.cell? ⟨w.heap.size, 2, none⟩ = some (.int .i64 a0_2) := (blk_cell KC1.out 2).trans rfl; have q3 : w1.cell? ⟨w.heap.size, 3, none⟩ = some (.int .i64 a0_3) := (blk_cell KC1.out 3).trans rfl; have q4 : w1.cell? ⟨w.heap.size, 4, none⟩ = some (.int .i64 a0_4) := (blk_cell KC1.out 4).trans rfl; have q5 : w1.cell? ⟨w.heap.size, 5, none⟩ = some (.int .i64 a0_5) := (blk_cell KC1.out 5).trans rfl; have q6 : w1.cell? ⟨w.heap.size, 6, none⟩ = some (.int .i64 a0_6) := (blk_cell KC1.out 6).trans rfl; have q7 : w1.cell? ⟨w.heap.size, 7, none⟩ = some (.int .i64 a0_7) := (blk_cell KC1.out 7).trans rfl; have q8 : w1.cell? ⟨w.heap.size, 8, none⟩ = some (.int .i64 a0_8) := (blk_cell KC1.out 8).trans rfl; have q9 : w1.cell? ⟨w.heap.size, 9, none⟩ = some (.int .i64 a0_9) := (blk_cell KC1.out 9).trans rfl; have q10 : w1.cell? ⟨w.heap.size, 10, none⟩ = some (.slice A0_10 l0_10.length c0_10) := (blk_cell KC1.out 10).trans rfl)
  have KA2 : Sd ((w1.alloc (.cells #[.slice none 0 0, .int .i64 a0_0, .int .i64 a0_1, .int .i64 a0_2, .int .i64 a0_3, .int .i64 a0_4, .int .i64 a0_5, .int .i64 a0_6, .int .i64 a0_7, .int .i64 a0_8, .int .i64 a0_9, .slice A0_10 l0_10.length c0_10, .int .i64 a1] 117)).heap[w1.heap.size]? = some (.cells #[.slice none 0 0, .int .i64 a0_0, .int .i64 a0_1, .int .i64 a0_2, .int .i64 a0_3, .int .i64 a0_4, .int .i64 a0_5, .int .i64 a0_6, .int .i64 a0_7, .int .i64 a0_8, .int .i64 a0_9, .slice A0_10 l0_10.length c0_10, .int .i64 a1] 117 (0, 0))) := ⟨blk_new w1 _⟩
  have HB2 : Sd (Below w.heap.size w (w1.alloc (.cells #[.slice none 0 0, .int .i64 a0_0, .int .i64 a0_1, .int .i64 a0_2, .int .i64 a0_3, .int .i64 a0_4, .int .i64 a0_5, .int .i64 a0_6, .int .i64 a0_7, .int .i64 a0_8, .int .i64 a0_9, .slice A0_10 l0_10.length c0_10, .int .i64 a1] 117))) := ⟨HB1.out.alloc HB1.out.size _⟩
  have HGB : Sd (w.heap.size ≤ w1.heap.size) := ⟨HB1.out.size⟩
  have hne : w.heap.size ≠ w1.heap.size := Nat.ne_of_lt (blk_lt KC1.out)
  have KC2 : Sd ((w1.alloc (.cells #[.slice none 0 0, .int .i64 a0_0, .int .i64 a0_1, .int .i64 a0_2, .int .i64 a0_3, .int .i64 a0_4, .int .i64 a0_5, .int .i64 a0_6, .int .i64 a0_7, .int .i64 a0_8, .int .i64 a0_9, .slice A0_10 l0_10.length c0_10, .int .i64 a1] 117)).heap[w.heap.size]? = some (.cells #[.int .i64 a0_0, .int .i64 a0_1, .int .i64 a0_2, .int .i64 a0_3, .int .i64 a0_4, .int .i64 a0_5, .int .i64 a0_6, .int .i64 a0_7, .int .i64 a0_8, .int .i64 a0_9, .slice A0_10 l0_10.length c0_10] 24)) := ⟨blk_alloc KC1.out _⟩
  clear q0 q1 q2 q3 q4 q5 q6 q7 q8 q9 q10 hne
  generalize (w1.alloc (.cells #[.slice none 0 0, .int .i64 a0_0, .int .i64 a0_1, .int .i64 a0_2, .int .i64 a0_3, .int .i64 a0_4, .int .i64 a0_5, .int .i64 a0_6, .int .i64 a0_7, .int .i64 a0_8, .int .i64 a0_9, .slice A0_10 l0_10.length c0_10, .int .i64 a1] 117)) = w2 at KA2 HB2 KC2 ⊢
  have q0 : w2.cell? ⟨w.heap.size, 0, none⟩ = some (.int .i64 a0_0) := (blk_cell KC2.out 0).trans rfl
  have q1 : w2.cell? ⟨w.heap.size, 1, none⟩ = some (.int .i64 a0_1) := (blk_cell KC2.out 1).trans rfl
  have q2 : w2.cell? ⟨w.heap.size, 2, none⟩ = some (.int .i64 a0_2) := (blk_cell KC2.out 2).trans rfl
  have q3 : w2.cell? ⟨w.heap.size, 3, none⟩ = some (.int .i64 a0_3) := (blk_cell KC2.out 3).trans rfl
  have q4 : w2.cell? ⟨w.heap.size, 4, none⟩ = some (.int .i64 a0_4) := (blk_cell KC2.out 4).trans rfl
  have q5 : w2.cell? ⟨w.heap.size, 5, none⟩ = some (.int .i64 a0_5) := (blk_cell KC2.out 5).trans rfl
  have q6 : w2.cell? ⟨w.heap.size, 6, none⟩ = some (.int .i64 a0_6) := (blk_cell KC2.out 6).trans rfl
  have q7 : w2.cell? ⟨w.heap.size, 7, none⟩ = some (.int .i64 a0_7) := (blk_cell KC2.out 7).trans rfl
  have q8 : w2.cell? ⟨w.heap.size, 8, none⟩ = some (.int .i64 a0_8) := (blk_cell KC2.out 8).trans rfl
  have q9 : w2.cell? ⟨w.heap.size, 9, none⟩ = some (.int .i64 a0_9) := (blk_cell KC2.out 9).trans rfl
  have q10 : w2.cell? ⟨w.heap.size, 10, none⟩ = some (.slice A0_10 l0_10.length c0_10) := (blk_cell KC2.out 10).trans rfl
  go_upto_block 0 with (go_at_call 67; (with_reducible refine (conf_Length.calls k a0_0 a0_1 a0_2 a0_3 a0_4 a0_5 a0_6 a0_7 a0_8 a0_9 _ _ l0_10 _ _ ?side1 ?side2 HLN.out).mono ?_); (case side1 => exact Kd.C_below HR.out HB2.out); (case side2 => exact HC.out); rintro e' w3 ⟨rfl, hb⟩; have KA3 := Sd.mk (blk_below KA2.out hb); have HB3 := Sd.mk (below_then HB2.out HB2.out.size hb); clear hb)
  go_wp2
  go_loopw [21] (fun v21 wr => ∃ (j : Nat) (v : Value), v21 = .int .i64 (j : Int) ∧ j ≤ n ∧ Sd (wr.heap[w1.heap.size]? = some (.cells #[v, .int .i64 a0_0, .int .i64 a0_1, .int .i64 a0_2, .int .i64 a0_3, .int .i64 a0_4, .int .i64 a0_5, .int .i64 a0_6, .int .i64 a0_7, .int .i64 a0_8, .int .i64 a0_9, .slice A0_10 l0_10.length c0_10, .int .i64 a1] 117 (0, 0))) ∧ Sd (Ythblnnboeikgcaa.Queue.Q 3 wr w.heap.size v ((beat_Alone.bits a2 n).take j)) ∧ Sd (v.ownBlock ≠ some w1.heap.size) ∧ Sd (Below w.heap.size w wr)) (fun i _ => n - (intOf i).toNat)
  case atStart => exact ⟨0, .slice none 0 0, rfl, Nat.zero_le _, KA3, ⟨Ythblnnboeikgcaa.Queue.Q.nil _ _ _⟩, ⟨by simp [Value.ownBlock]⟩, HB3⟩
  case round =>
  clear KA3 HB3 KA2 HB2 KC2
  obtain ⟨j, v, rfl, hj, HA, HQ, HNE, HBW⟩ := hrel
  have hbl := beat_Alone.bits_len a2 n
  by_cases hlt : j < n
  · have hlen : ((beat_Alone.bits a2 n).take j).length ≤ 1000000 := by
      have := HN1.out
      rw [List.length_take]
      omega
    have hsn := beat_Alone.bits_snoc a2 hlt
    have t0 : decide ((j : Int) < (n : Int)) = true := decide_eq_true (by omega)
    have tj : 0 ≤ (j : Int) := by omega
    have tn : (j : Int) < (n : Int) := by omega
    have tn1 := HN1.out
    have hbt_ : ∀ h : j < a2.size, ((a2[j]'h).toNat : Int) = bt a2 (j : Int) := fun h => bt_at a2 (j : Int) h
    by_cases c1 : j < a2.size
    · have t1 : decide ((j : Int) < (a2.size : Int)) = true := decide_eq_true (by omega)
      have t1b : (j : Int) < (a2.size : Int) := by omega
      by_cases c2 : bt a2 (j : Int) = 49
      · have t2 : (bt a2 (j : Int) == 49) = true := beq_iff_eq.mpr c2
        rw [if_pos ⟨c1, c2⟩] at hsn
        clear c2
        go_wp2_with (go_at_call 102; (with_reducible refine (beat_ends_begin.calls _ HA.out rfl HQ.out hlen HBW.out.size HNE.out).mono ?_); rintro e' w4 ⟨⟨u4, rfl⟩, v4, hA4, hQ4, ho4, hk4⟩; have HA4 := Sd.mk hA4; have HQ4 := Sd.mk hQ4; have HO4 := Sd.mk ho4; have HK4 := Sd.mk hk4; clear hA4 hQ4 ho4 hk4)
        go_roundw
        case rel =>
          refine ⟨j + 1, v4, by simp, by omega, ⟨HA4.out.trans rfl⟩, ⟨?_⟩, ⟨?_⟩, ⟨HBW.out.trans (HK4.out.below HGB.out (fun g hg => HQ.out.base g hg) HBW.out.size)⟩⟩
          · rw [← hsn]
            exact HQ4.out
          · rcases HO4.out with h | ⟨g, h, hg⟩
            · rw [h]
              exact HNE.out
            · rw [h]
              intro e
              have := Option.some.inj e
              have := blk_lt HA.out
              omega
        case measure => simp [intOf]; omega
      · have t2 : (bt a2 (j : Int) == 49) = false := beq_eq_false_iff_ne.mpr c2
        rw [if_neg (fun h => c2 h.2)] at hsn
        clear c2
        go_wp2_with (go_at_call 102; (with_reducible refine (beat_ends_begin.calls _ HA.out rfl HQ.out hlen HBW.out.size HNE.out).mono ?_); rintro e' w4 ⟨⟨u4, rfl⟩, v4, hA4, hQ4, ho4, hk4⟩; have HA4 := Sd.mk hA4; have HQ4 := Sd.mk hQ4; have HO4 := Sd.mk ho4; have HK4 := Sd.mk hk4; clear hA4 hQ4 ho4 hk4)
        go_roundw
        case rel =>
          refine ⟨j + 1, v4, by simp, by omega, ⟨HA4.out.trans rfl⟩, ⟨?_⟩, ⟨?_⟩, ⟨HBW.out.trans (HK4.out.below HGB.out (fun g hg => HQ.out.base g hg) HBW.out.size)⟩⟩
          · rw [← hsn]
            exact HQ4.out
          · rcases HO4.out with h | ⟨g, h, hg⟩
            · rw [h]
              exact HNE.out
            · rw [h]
              intro e
              have := Option.some.inj e
              have := blk_lt HA.out
              omega
        case measure => simp [intOf]; omega
    · have t1 : decide ((j : Int) < (a2.size : Int)) = false := decide_eq_false (by omega)
      rw [if_neg (fun h => c1 h.1)] at hsn
      have t1b : (a2.size : Int) ≤ (j : Int) := by omega
      go_wp2_with (go_at_call 102; (with_reducible refine (beat_ends_begin.calls _ HA.out rfl HQ.out hlen HBW.out.size HNE.out).mono ?_); rintro e' w4 ⟨⟨u4, rfl⟩, v4, hA4, hQ4, ho4, hk4⟩; have HA4 := Sd.mk hA4; have HQ4 := Sd.mk hQ4; have HO4 := Sd.mk ho4; have HK4 := Sd.mk hk4; clear hA4 hQ4 ho4 hk4)
      go_roundw
      case rel =>
        refine ⟨j + 1, v4, by simp, by omega, ⟨HA4.out.trans rfl⟩, ⟨?_⟩, ⟨?_⟩, ⟨HBW.out.trans (HK4.out.below HGB.out (fun g hg => HQ.out.base g hg) HBW.out.size)⟩⟩
        · rw [← hsn]
          exact HQ4.out
        · rcases HO4.out with h | ⟨g, h, hg⟩
          · rw [h]
            exact HNE.out
          · rw [h]
            intro e
            have := Option.some.inj e
            have := blk_lt HA.out
            omega
      case measure => simp [intOf]; omega
  · obtain rfl : j = n := by omega
    have t0 : decide ((j : Int) < (j : Int)) = false := decide_eq_false (by omega)
    rw [List.take_of_length_le (by omega)] at HQ
    have HLB : Sd ((beat_Alone.bits a2 j).length = j) := ⟨hbl⟩
    clear hbl hlt hj
    go_wp2_with (go_at_call 99; (with_reducible refine (num_Clamp.calls k _ _ _ _ _ HCL.out).mono ?_); rintro e' w5 ⟨rfl, hdr⟩; obtain ⟨nd, rfl⟩ := hdr)
    have HA5 : Sd ((wr.drewN nd).heap[w1.heap.size]? = some (.cells #[v, .int .i64 a0_0, .int .i64 a0_1, .int .i64 a0_2, .int .i64 a0_3, .int .i64 a0_4, .int .i64 a0_5, .int .i64 a0_6, .int .i64 a0_7, .int .i64 a0_8, .int .i64 a0_9, .slice A0_10 l0_10.length c0_10, .int .i64 a1] 117 (0, 0))) := ⟨blk_drewN HA.out nd⟩
    have HQ5 : Sd (Ythblnnboeikgcaa.Queue.Q 3 (wr.drewN nd) w.heap.size v (beat_Alone.bits a2 j)) := ⟨HQ.out.same (fun _ _ _ => rfl)⟩
    have HB5 : Sd (Below w.heap.size w (wr.drewN nd)) := ⟨pw_below_drewN HBW.out nd⟩
    clear HA HQ HBW
    generalize wr.drewN nd = w5 at HA5 HQ5 HB5 ⊢
    obtain ⟨i0, hi, hz0, hz1, hz2⟩ := info_parts info5
    go_loopw [12, 40] (fun v12 v40 wr => ∃ (i : Nat) (s : Int) (L o : List Int) (v : Value) (A : Option Addr) (c : Nat), v40 = .int .i64 (i : Int) ∧ i ≤ m ∧ v12 = .slice A o.length c ∧ Sd (wr.heap[w1.heap.size]? = some (.cells #[v, .int .i64 a0_0, .int .i64 a0_1, .int .i64 a0_2, .int .i64 a0_3, .int .i64 a0_4, .int .i64 a0_5, .int .i64 a0_6, .int .i64 a0_7, .int .i64 a0_8, .int .i64 a0_9, .slice A0_10 l0_10.length c0_10, .int .i64 s] 117 (0, 0))) ∧ Sd (Ythblnnboeikgcaa.Queue.Q 3 wr w.heap.size v L) ∧ Sd (L.length = j) ∧ Sd (v.ownBlock ≠ some w1.heap.size) ∧ Sd (Below w.heap.size w wr) ∧ Sd (wr.ownsRow w.heap.size 5 1 (.slice A o.length c) o.length (o.map (Value.int .u8))) ∧ Sd (o.length = i) ∧ Sd (beat_Alone.go k a0_0 a0_1 a0_2 a0_3 a0_4 a0_5 a0_6 a0_7 a0_8 a0_9 l0_10 (m - i) s L o = some out)) (fun _ v40 _ => m - (intOf v40).toNat)
    case atStart => exact ⟨0, a1, beat_Alone.bits a2 j, [], v, none, 0, rfl, Nat.zero_le _, rfl, HA5, HQ5, HLB, HNE, HB5, ⟨World.ownsRow_nil _ _ _ _⟩, ⟨rfl⟩, HGO⟩
    case round =>
    clear HA5 HQ5 HLB HNE HB5 HGO
    obtain ⟨i, s, L, o, v, A, c, rfl, hi_, rfl, HA, HQ, HLB, HNE, HBW, HRO, HOL, HGO⟩ := hrel
    have hm1 := HM1.out
    by_cases hlt : i < m
    · have t0 : decide ((i : Int) < (m : Int)) = true := decide_eq_true (by omega)
      have ti : 0 ≤ (i : Int) := by omega
      have tm : (i : Int) < (m : Int) := by omega
      have hgo := HGO.out
      obtain ⟨q, hq⟩ : ∃ q, m - i = q + 1 := ⟨m - i - 1, by omega⟩
      rw [hq] at hgo
      cases L with
      | nil => cases hgo
      | cons x L' =>
      unfold beat_Alone.go at hgo
      by_cases dx : 0 ≤ x ∧ x ≤ 1
      case neg => rw [if_neg dx] at hgo; cases hgo
      rw [if_pos dx] at hgo
      obtain ⟨⟨s', r2⟩, hnx, hgo⟩ := Option.bind_eq_some_iff.mp hgo
      obtain ⟨b, hbt, hgo⟩ := Option.bind_eq_some_iff.mp hgo
      have HX := Sd.mk dx
      have HNX := Sd.mk hnx
      have HBT := Sd.mk hbt
      have HGO2 := Sd.mk hgo
      have HLL : Sd (L'.length + 1 = j) := HLB
      have hlen : L'.length ≤ 1000000 := by
        have := HLL.out
        have := HN1.out
        omega
      have hol : o.length ≤ 2000 := by have := HOL.out; omega
      have HQE := Sd.mk hq
      clear hnx hbt hgo dx hq HGO
      go_wp2_with (first | (go_at_call 103; (with_reducible refine (beat_alone_tick.calls k a0_0 a0_1 a0_2 a0_3 a0_4 a0_5 a0_6 a0_7 a0_8 a0_9 _ _ l0_10 s s' r2 b x L' w HR.out HC.out HBW.out HGB.out HA.out HQ.out HBW.out.size HNE.out hlen HX.out HNX.out HBT.out).mono ?_); rintro e' w6 ⟨rfl, v6, hA6, hQ6, hn6, ho6, hk6⟩; have HA6 := Sd.mk hA6; have HQ6 := Sd.mk hQ6; have HN6 := Sd.mk hn6; have HO6 := Sd.mk ho6; have HK6 := Sd.mk hk6; clear hA6 hQ6 hn6 ho6 hk6; have hrow6 := beat_Alone.row_kept HRO.out HA.out HQ.out HK6.out) | (at_builtin; refine wpList_append_own _ rfl _ _ 67 rfl w.heap.size 5 i0 (.int .u8 0) 1 1 Try.underlying67 hi hz0 hz1 hz2 rfl (by decide) (.slice A o.length c) o.length (o.map (Value.int .u8)) rfl (hrow6.alloc _) ⟨w6.heap.size, 0, none⟩ 1 1 [.int .u8 (48 + x)] rfl rfl (cell_one_new _ _ _) (by simp [Value.oneCell']) (by unfold maxLen; omega) (by omega) (by rw [World.size_alloc]; exact Nat.le_succ_of_le (Nat.le_trans HBW.out.size HK6.out.size)) ?_; intro v7 w7 hown7 hg7 _; obtain ⟨g7, c7, rfl⟩ := ownsRow_succ hown7; have HW7 := Sd.mk hown7; have HG7 := Sd.mk hg7; have HR6 := Sd.mk hrow6; clear hown7 hg7 hrow6))
      have hFB : (Value.slice A o.length c).ownBlock ≠ some w1.heap.size := fun e => by
        obtain ⟨cur, hcur⟩ := Ythblnnboeikgcaa.Round.own_typed HR6.out _ e
        have := HA6.out
        rw [hcur] at this
        cases this
      have hFQ : ∀ g, v6.ownBlock = some g → (Value.slice A o.length c).ownBlock ≠ some g := fun g hg e => by
        obtain ⟨cur, hcur⟩ := Ythblnnboeikgcaa.Round.own_typed HR6.out _ e
        obtain ⟨cur2, hcur2⟩ := HQ6.out.block g hg
        rw [hcur] at hcur2
        cases hcur2
      have hstep : ∀ b, b < w6.heap.size → (Value.slice A o.length c).ownBlock ≠ some b → w7.heap[b]? = w6.heap[b]? := fun b hb hne => (HG7.out.block b (by rw [World.size_alloc]; exact Nat.lt_succ_of_lt hb) (fun e => hne e.symm)).trans (Below.heap_alloc w6 _ b hb)
      have HB6 : Sd (Below w.heap.size w w6) := ⟨HBW.out.trans (HK6.out.below HGB.out (fun g hg => HQ.out.base g hg) HBW.out.size)⟩
      have HB7 : Sd (Below w.heap.size w w7) := ⟨(HB6.out.alloc HB6.out.size _).grown HG7.out (by rw [World.size_alloc]; exact Nat.le_succ_of_le HB6.out.size) (fun g e => Ythblnnboeikgcaa.Round.own_far HR6.out g e)⟩
      go_roundw
      case rel =>
        refine ⟨i + 1, s', L' ++ [b], o ++ [48 + x], v6, some ⟨g7, 0, none⟩, c7, by simp, by omega, by simp, ⟨(hstep _ (blk_lt HA6.out) hFB).trans HA6.out⟩, ⟨HQ6.out.same (fun g hg hlt => hstep g hlt (hFQ g hg))⟩, ⟨?_⟩, HN6, HB7, ⟨?_⟩, ⟨?_⟩, ⟨?_⟩⟩
        · rw [List.length_append]
          exact HLL.out
        · have := HW7.out
          rw [List.map_append, List.length_append]
          exact this
        · rw [List.length_append, HOL.out]
          rfl
        · rw [show m - (i + 1) = q by have := HQE.out; omega]
          exact HGO2.out
      case measure => simp [intOf]; omega
    · obtain rfl : i = m := by omega
      have t0 : decide ((i : Int) < (i : Int)) = false := decide_eq_false (by omega)
      have hgo := HGO.out
      rw [Nat.sub_self] at hgo
      unfold beat_Alone.go at hgo
      obtain rfl := Option.some.inj hgo
      have hol : o.length ≤ 2000 := by have := HOL.out; omega
      have kcv : (convert 67 9 (.slice A o.length c)).run Try.prog wr = .ok (.string (strOfNums o)) wr := string_of_reads (e := 5) Try.underlying67 Try.underlying5 Try.underlying9 (Ythblnnboeikgcaa.Round.own_reads HRO.out (by omega))
      clear hgo
      go_wp2
      go_ret
      exact ⟨rfl, HBW.out⟩
end Go.Proofs.Ythblnnboeikgcaa.B
