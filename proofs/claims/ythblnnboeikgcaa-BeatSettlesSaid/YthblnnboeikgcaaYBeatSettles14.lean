import Derived.Laws.IdiomStrings
import Derived.Test.YthblnnboeikgcaaYBeatSettles12
import Derived.Test.YthblnnboeikgcaaYBeatSettles13
set_option maxHeartbeats 4000000
set_option maxRecDepth 100000
namespace Go.Proofs.Ythblnnboeikgcaa.B
open Go.RowKit Go.Proofs.YthblnnboeikgcaaW.PrintWords Go.Proofs.YthblnnboeikgcaaW.PrintLast Go.Proofs.YthblnnboeikgcaaW.PrintMore
attribute [local go_sem] max2_int min2_int max_two min_two max_three min_three max_four min_four   -- for this text's walks alone
set_option linter.unusedVariables false
set_option linter.unusedSimpArgs false
theorem pipe_sound.cells {W : World} {g : Nat} {t : TypeId} {c0 c1 c2 c3 c4 c5 c6 c7 c8 c9 c10 : Value} (K : W.heap[g]? = some (.cells #[c0, c1, c2, c3, c4, c5, c6, c7, c8, c9, c10] t (0, 0))) :
    W.cell? ⟨g, 0, none⟩ = some c0 ∧ W.cell? ⟨g, 1, none⟩ = some c1 ∧ W.cell? ⟨g, 2, none⟩ = some c2 ∧ W.cell? ⟨g, 3, none⟩ = some c3 ∧ W.cell? ⟨g, 4, none⟩ = some c4 ∧ W.cell? ⟨g, 5, none⟩ = some c5 ∧ W.cell? ⟨g, 6, none⟩ = some c6 ∧ W.cell? ⟨g, 7, none⟩ = some c7 ∧ W.cell? ⟨g, 8, none⟩ = some c8 ∧ W.cell? ⟨g, 9, none⟩ = some c9 ∧ W.cell? ⟨g, 10, none⟩ = some c10 :=
  ⟨(blk_cell K 0).trans rfl, (blk_cell K 1).trans rfl, (blk_cell K 2).trans rfl, (blk_cell K 3).trans rfl, (blk_cell K 4).trans rfl, (blk_cell K 5).trans rfl, (blk_cell K 6).trans rfl, (blk_cell K 7).trans rfl, (blk_cell K 8).trans rfl, (blk_cell K 9).trans rfl, (blk_cell K 10).trans rfl⟩
def pipe_sound.Row (W : World) (B : Nat) (v : Value) (s : ByteArray) : Prop := ∃ g cap cs, ∃ fz : Nat × Nat, v = .slice (some ⟨g, 0, none⟩) s.size cap ∧ B ≤ g ∧ W.heap[g]? = some (.cells cs 5 fz) ∧ s.size ≤ fz.1 ∧ s.size ≤ cap ∧ ∀ j, j < s.size → cs[j]? = some (.int .u8 (bt s (j : Int)))
theorem pipe_sound.row_at (s : ByteArray) (cap j : Nat) (hj : j < s.size) : (bytesRow s cap)[j]? = some (.int .u8 (bt s (j : Int))) := by
  have h : s.data.size = s.size := rfl
  unfold bytesRow
  rw [Array.getElem?_append_left (by rw [Array.size_map]; omega), Array.getElem?_map, Array.getElem?_eq_getElem (by omega)]
  unfold bt
  simp [hj]
  rfl
theorem pipe_sound.row_size (s : ByteArray) (cap : Nat) : s.size ≤ (bytesRow s cap).size := by
  have h : s.data.size = s.size := rfl
  unfold bytesRow
  rw [Array.size_append, Array.size_map]
  omega
theorem pipe_sound.row_new {W : World} {B : Nat} (h : B ≤ W.heap.size) (w0 : World) (s : ByteArray) : pipe_sound.Row ((W.alloc (.cells (bytesRow s (grownCap w0 s.size 0 5)) 5 ((bytesRow s (grownCap w0 s.size 0 5)).size, (bytesRow s (grownCap w0 s.size 0 5)).size + 1))).drew) B (.slice (some ⟨W.heap.size, 0, none⟩) s.size (grownCap w0 s.size 0 5)) s :=
  ⟨_, _, _, _, rfl, h, blk_drew (blk_new _ _), pipe_sound.row_size _ _, grownCap_ge _ _ _ _, fun j hj => pipe_sound.row_at s _ j hj⟩
def pipe_sound.nums (s : ByteArray) : List Int := (List.range s.size).map (fun (j : Nat) => bt s (j : Int))
def pipe_sound.put (s : ByteArray) (i : Nat) (x : Int) : ByteArray := strOfNums ((pipe_sound.nums s).set i x)
theorem pipe_sound.cell_of {W : World} {g i : Nat} {cs : Array Value} {T : TypeId} {fz : Nat × Nat} {s : ByteArray} (h : W.heap[g]? = some (.cells cs T fz)) (ha : ∀ j, j < s.size → cs[j]? = some (.int .u8 (bt s (j : Int)))) (hi : i < s.size) : W.cell? ⟨g, i, none⟩ = some (.int .u8 (bt s (i : Int))) := by
  simp [World.cell?, h, ha i hi]
theorem pipe_sound.frozen_of {W : World} {g i : Nat} {cs : Array Value} {T : TypeId} {fz : Nat × Nat} (h : W.heap[g]? = some (.cells cs T fz)) (hi : i < fz.1) : W.frozen? ⟨g, i, none⟩ = false := by
  obtain ⟨a, b⟩ := fz
  simp [World.frozen?, h]
  intro h2
  exact absurd hi (by simp; omega)
theorem pipe_sound.back {W : World} {g i : Nat} {cs : Array Value} {T : TypeId} {fz : Nat × Nat} {s : ByteArray} (h : W.heap[g]? = some (.cells cs T fz)) (ha : ∀ j, j < s.size → cs[j]? = some (.int .u8 (bt s (j : Int)))) (hi : i < s.size) (hs : s.size ≤ 1000000) (x : Int) (cap : Nat) :
    (convert 67 9 (.slice (some ⟨g, 0, none⟩) s.size cap)).run Try.prog (W.setCell ⟨g, i, none⟩ (.int .u8 x)) = .ok (.string (pipe_sound.put s i x)) (W.setCell ⟨g, i, none⟩ (.int .u8 x)) := by
  refine string_of_reads (e := 5) Try.underlying67 Try.underlying5 Try.underlying9 ⟨by simp [pipe_sound.nums], by omega, fun _ => ⟨_, rfl, fun j hj => ?_⟩⟩
  have hk : (W.setCell ⟨g, i, none⟩ (.int .u8 x)).heap[g]? = some (.cells (cs.setIfInBounds i (.int .u8 x)) T fz) := by simp [World.setCell, Array.getElem?_modify, h]
  have hin : i < cs.size := by
    have := ha i hi
    rcases Nat.lt_or_ge i cs.size with h1 | h1
    · exact h1
    · rw [Array.getElem?_eq_none h1] at this
      cases this
  rw [show ((⟨g, 0, none⟩ : Addr).add j) = ⟨g, j, none⟩ by simp [Addr.add]; exact fun h => h.symm]
  simp only [World.cell?, hk]
  by_cases e : i = j
  · subst e
    simp [Array.getElem?_setIfInBounds, hin, List.getD_eq_getElem?_getD, pipe_sound.nums, hi]
  · have := ha j hj
    simp [Array.getElem?_setIfInBounds, e, this, List.getD_eq_getElem?_getD, List.getElem?_set_ne e, pipe_sound.nums, hj]
theorem pipe_sound.nums_len (s : ByteArray) : (pipe_sound.nums s).length = s.size := by simp [pipe_sound.nums]
theorem pipe_sound.whole (s : ByteArray) : strOfNums (pipe_sound.nums s) = s := by
  refine ByteArray.ext (Array.toList_inj.1 (List.ext_getElem (by simp [strOfNums, pipe_sound.nums]) (fun j h1 h2 => ?_)))
  simp [strOfNums, pipe_sound.nums, bt]
  have h3 : j < s.size := by simpa using h2
  simp [h3]
  rfl
theorem pipe_sound.conv {W : World} {g : Nat} {cs : Array Value} {T : TypeId} {fz : Nat × Nat} {s : ByteArray} (h : W.heap[g]? = some (.cells cs T fz)) (ha : ∀ j, j < s.size → cs[j]? = some (.int .u8 (bt s (j : Int)))) (hs : s.size ≤ 1000000) (cap : Nat) :
    (convert 67 9 (.slice (some ⟨g, 0, none⟩) s.size cap)).run Try.prog W = .ok (.string s) W := by
  refine (string_of_reads (e := 5) (xs := pipe_sound.nums s) Try.underlying67 Try.underlying5 Try.underlying9 ⟨by simp [pipe_sound.nums], by omega, fun _ => ⟨_, rfl, fun j hj => ?_⟩⟩).trans (by rw [pipe_sound.whole])
  rw [show ((⟨g, 0, none⟩ : Addr).add j) = ⟨g, j, none⟩ by simp [Addr.add]; exact fun h => h.symm]
  have := ha j hj
  simp [World.cell?, h, this, List.getD_eq_getElem?_getD, pipe_sound.nums, hj]
theorem pipe_sound.news_of {W : World} {g : Nat} {cs : Array Value} {T : TypeId} {fz : Nat × Nat} {s : ByteArray} (h : W.heap[g]? = some (.cells cs T fz)) (ha : ∀ j, j < s.size → cs[j]? = some (.int .u8 (bt s (j : Int)))) : ∀ (j : Nat) (u : Value), ((pipe_sound.nums s).map (Value.int .u8))[j]? = some u → W.cell? ((⟨g, 0, none⟩ : Addr).add j) = some u := by
  intro j u hu
  rw [show ((⟨g, 0, none⟩ : Addr).add j) = ⟨g, j, none⟩ by simp [Addr.add]; exact fun h => h.symm]
  have hj : j < s.size := by
    rcases Nat.lt_or_ge j s.size with h1 | h1
    · exact h1
    · rw [List.getElem?_eq_none (by simpa [pipe_sound.nums] using h1)] at hu
      cases hu
  have := ha j hj
  simp only [World.cell?, h, this]
  simpa [pipe_sound.nums, hj] using hu
theorem pipe_sound.news_one (s : ByteArray) : ∀ u ∈ (pipe_sound.nums s).map (Value.int .u8), u.oneCell' = true := by
  intro u hu
  obtain ⟨x, _, rfl⟩ := List.mem_map.1 hu
  rfl
theorem pipe_sound.all_of {W : World} {base : Nat} {v : Value} {s : ByteArray} (h : W.ownsRow base 5 1 v (1 + s.size) ([.int .u8 48] ++ (pipe_sound.nums s).map (Value.int .u8))) : ∃ g cap, v = .slice (some ⟨g, 0, none⟩) (s.size + 1) cap ∧ base ≤ g ∧ s.size + 1 ≤ cap ∧ Ythblnnboeikgcaa.Round.AllB 5 W g (48 :: pipe_sound.nums s) := by
  rw [Nat.add_comm] at h
  obtain ⟨g, cap, cs, rfl, hb, hh, hc, ha⟩ := Ythblnnboeikgcaa.Round.own_block h
  refine ⟨g, cap, rfl, hb, hc, cs, hh, fun j hj => ?_⟩
  rw [ha j (by simpa using hj)]
  have e : [Value.int .u8 48] ++ (pipe_sound.nums s).map (Value.int .u8) = (48 :: pipe_sound.nums s).map (Value.int .u8) := rfl
  rw [e, List.getElem?_map, List.getD_eq_getElem?_getD, List.getElem?_eq_getElem hj]
  rfl
def pipe_sound.f (k : Nat) (a0_0 a0_1 a0_2 a0_3 a0_4 a0_5 a0_6 a0_7 a0_8 a0_9 : Int) (l0_10 : List Int) (a1 : ByteArray) : Option ByteArray := (conf_Length.f k a0_0 a0_1 a0_2 a0_3 a0_4 a0_5 a0_6 a0_7 a0_8 a0_9 l0_10).bind fun n => if (a1.size : Int) = n then some a1 else pipe_Blank.f k a0_0 a0_1 a0_2 a0_3 a0_4 a0_5 a0_6 a0_7 a0_8 a0_9 l0_10
theorem pipe_sound.mono : ∀ a0 a1 a2 a3 a4 a5 a6 a7 a8 a9 a10 a11 k, LeO (pipe_sound.f k a0 a1 a2 a3 a4 a5 a6 a7 a8 a9 a10 a11) (pipe_sound.f (k + 1) a0 a1 a2 a3 a4 a5 a6 a7 a8 a9 a10 a11) := by
  intro a0 a1 a2 a3 a4 a5 a6 a7 a8 a9 a10 a11 k
  unfold pipe_sound.f
  exact LeO.bind (conf_Length.mono _ _ _ _ _ _ _ _ _ _ _ _) (fun _ => LeO.ite (LeO.refl _) (pipe_Blank.mono _ _ _ _ _ _ _ _ _ _ _ _))
theorem pipe_sound.calls (k : Nat) (a0_0 a0_1 a0_2 a0_3 a0_4 a0_5 a0_6 a0_7 a0_8 a0_9 : Int) (A0_10 : Option Addr) (c0_10 : Nat) (l0_10 : List Int) (a1 r : ByteArray) (w : World) (hr0_10 : Kd.C (Kd.int .i64) w A0_10 l0_10.length l0_10) (hc0_10 : l0_10.length ≤ c0_10) (h : pipe_sound.f k a0_0 a0_1 a0_2 a0_3 a0_4 a0_5 a0_6 a0_7 a0_8 a0_9 l0_10 a1 = some r) :
    Calls Try.prog 84 #[.agg #[.int .i64 a0_0, .int .i64 a0_1, .int .i64 a0_2, .int .i64 a0_3, .int .i64 a0_4, .int .i64 a0_5, .int .i64 a0_6, .int .i64 a0_7, .int .i64 a0_8, .int .i64 a0_9, .slice A0_10 l0_10.length c0_10], .string a1] w fun e w' => ∃ v, e = .returned v ∧ pipe_sound.Row w' w.heap.size v r ∧ Below w.heap.size w w' := by
  have HR := Sd.mk hr0_10
  have HC := Sd.mk hc0_10
  clear hr0_10 hc0_10
  have kc := fun w s => run_bytes_of_string (P := Try.prog) w 9 67 5 s Try.underlying9 Try.underlying67 Try.underlying5
  unfold pipe_sound.f at h
  obtain ⟨n, hn, h⟩ := Option.bind_eq_some_iff.mp h
  have HLN := Sd.mk hn
  clear hn
  by_cases d1 : (a1.size : Int) = n
  · rw [if_pos d1] at h
    obtain rfl := Option.some.inj h
    have d1b : ((a1.size : Int) != n) = false := bne_eq_false_iff_eq.mpr d1
    clear h d1
    go_enter Try.func84, Try.ntmps84
    go_wp2_with (first | (go_at_call 67; (with_reducible refine (conf_Length.calls k a0_0 a0_1 a0_2 a0_3 a0_4 a0_5 a0_6 a0_7 a0_8 a0_9 _ _ l0_10 n _ ?side1 ?side2 HLN.out).mono ?_); (case side1 => exact Kd.C_alloc HR.out _); (case side2 => exact HC.out); rintro e' w1 ⟨rfl, hb⟩; have K1 := Sd.mk (blk_below (blk_new w _) hb); have HB1 := Sd.mk (below_then (below_alloc (Below.refl _ w) _) (by simp) hb); clear hb; have ⟨q0, q1, q2, q3, q4, q5, q6, q7, q8, q9, q10⟩ := pipe_sound.cells K1.out))
    go_ret
    exact ⟨_, rfl, pipe_sound.row_new HB1.out.size _ _, (below_drew1 HB1.out).alloc (by have := HB1.out.size; simpa using this) _⟩
  · rw [if_neg d1] at h
    have HBL := Sd.mk h
    have d1b : ((a1.size : Int) != n) = true := bne_iff_ne.mpr d1
    clear h d1
    go_enter Try.func84, Try.ntmps84
    go_wp2_with (first | (go_at_call 67; (with_reducible refine (conf_Length.calls k a0_0 a0_1 a0_2 a0_3 a0_4 a0_5 a0_6 a0_7 a0_8 a0_9 _ _ l0_10 n _ ?side1 ?side2 HLN.out).mono ?_); (case side1 => exact Kd.C_alloc HR.out _); (case side2 => exact HC.out); rintro e' w1 ⟨rfl, hb⟩; have K1 := Sd.mk (blk_below (blk_new w _) hb); have HB1 := Sd.mk (below_then (below_alloc (Below.refl _ w) _) (by simp) hb); clear hb; have ⟨q0, q1, q2, q3, q4, q5, q6, q7, q8, q9, q10⟩ := pipe_sound.cells K1.out) | (go_at_call 29; (with_reducible refine (pipe_Blank.calls k a0_0 a0_1 a0_2 a0_3 a0_4 a0_5 a0_6 a0_7 a0_8 a0_9 _ _ l0_10 r _ ?side1 ?side2 HBL.out).mono ?_); (case side1 => exact Kd.C_below HR.out HB1.out); (case side2 => exact HC.out); rintro e' w2 ⟨rfl, hb⟩; have K2 := Sd.mk (blk_below K1.out hb); have HB2 := Sd.mk (below_then HB1.out HB1.out.size hb); clear hb; clear q0 q1 q2 q3 q4 q5 q6 q7 q8 q9 q10; have ⟨q0, q1, q2, q3, q4, q5, q6, q7, q8, q9, q10⟩ := pipe_sound.cells K2.out))
    go_ret
    exact ⟨_, rfl, pipe_sound.row_new HB2.out.size _ _, (below_drew1 HB2.out).alloc (by have := HB2.out.size; simpa using this) _⟩
end Go.Proofs.Ythblnnboeikgcaa.B
