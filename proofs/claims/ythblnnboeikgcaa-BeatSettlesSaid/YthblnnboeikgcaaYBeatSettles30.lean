import Derived.Test.YthblnnboeikgcaaYBeatSettles28
import Derived.Test.YthblnnboeikgcaaYBeatSettles29
set_option maxHeartbeats 4000000
set_option maxRecDepth 100000
namespace Go.Proofs.Ythblnnboeikgcaa.B
open Go.RowKit Go.Proofs.YthblnnboeikgcaaW.PrintWords Go.Proofs.YthblnnboeikgcaaW.PrintLast Go.Proofs.YthblnnboeikgcaaW.PrintMore
attribute [local go_sem] max2_int min2_int max_two min_two max_three min_three max_four min_four   -- for this text's walks alone
set_option linter.unusedVariables false
set_option linter.unusedSimpArgs false
theorem vec_Step.size_alloc (w : World) (o : Obj) : (w.alloc o).heap.size = w.heap.size + 1 := by simp
def vec_Step.go (k : Nat) (c : S24) (x : Int) (codes boss : ByteArray) (VS : List ByteArray) : List Nat → Option (List Int)
  | [] => some []
  | j :: js => (vec_read.f (bt codes (j : Int))).bind fun q => (king_Step.f k c.f0 c.f1 c.f2 c.f3 c.f4 c.f5 c.f6 c.f7 c.f8 c.f9 c.f10 x q.1 q.2 (vec_Step_1.vote boss (j : Int)) (VS.map (fun s => vec_Step_1.vote s (j : Int)))).bind fun s => (king_Code.f s.1 s.2).bind fun y => if 0 ≤ y ∧ y ≤ 100 then (vec_Step.go k c x codes boss VS js).bind fun l => some (y :: l) else none
theorem vec_Step.go_mono (c : S24) (x : Int) (codes boss : ByteArray) (VS : List ByteArray) (k : Nat) : ∀ js, LeO (vec_Step.go k c x codes boss VS js) (vec_Step.go (k + 1) c x codes boss VS js)
  | [] => LeO.refl _
  | j :: js => by
    unfold vec_Step.go
    exact LeO.bind (LeO.refl _) (fun _ => LeO.bind (king_Step.mono _ _ _ _ _ _ _ _ _ _ _ _ _ _ _ _ _) (fun _ => LeO.bind (LeO.refl _) (fun _ => LeO.ite (LeO.bind (vec_Step.go_mono c x codes boss VS k js) (fun _ => LeO.refl _)) (LeO.refl _))))
def vec_Step.Digit (k : Nat) (c : S24) (x : Int) (codes boss : ByteArray) (VS : List ByteArray) (j : Nat) (y : Int) : Prop :=
  ∃ q1 q2 s1 s2, vec_read.f (bt codes (j : Int)) = some (q1, q2) ∧ king_Step.f k c.f0 c.f1 c.f2 c.f3 c.f4 c.f5 c.f6 c.f7 c.f8 c.f9 c.f10 x q1 q2 (vec_Step_1.vote boss (j : Int)) (VS.map (fun s => vec_Step_1.vote s (j : Int))) = some (s1, s2) ∧ king_Code.f s1 s2 = some y ∧ 0 ≤ y ∧ y ≤ 100
theorem vec_Step.spec {k : Nat} {c : S24} {x : Int} {codes boss : ByteArray} {VS : List ByteArray} : ∀ {js : List Nat} {V : List Int}, vec_Step.go k c x codes boss VS js = some V → V.length = js.length ∧ ∀ i (h : i < js.length), vec_Step.Digit k c x codes boss VS js[i] (V.getD i 0)
  | [], V, h => by
    unfold vec_Step.go at h
    obtain rfl := Option.some.inj h
    exact ⟨rfl, fun i h => absurd h (by simp)⟩
  | j :: js, V, h => by
    unfold vec_Step.go at h
    obtain ⟨q, hq, h⟩ := Option.bind_eq_some_iff.mp h
    obtain ⟨s, hs, h⟩ := Option.bind_eq_some_iff.mp h
    obtain ⟨y, hy, h⟩ := Option.bind_eq_some_iff.mp h
    by_cases d : 0 ≤ y ∧ y ≤ 100
    · rw [if_pos d] at h
      obtain ⟨l, hl, h⟩ := Option.bind_eq_some_iff.mp h
      obtain rfl := Option.some.inj h
      obtain ⟨h1, h2⟩ := vec_Step.spec hl
      refine ⟨by simp [h1], fun i hi => ?_⟩
      cases i with
      | zero => exact ⟨q.1, q.2, s.1, s.2, hq, hs, hy, d.1, d.2⟩
      | succ i => exact h2 i (by simpa using hi)
    · rw [if_neg d] at h
      cases h
def vec_Step.f (k : Nat) (a0_0 : Int) (a0_1 : Int) (a0_2 : Int) (a0_3 : Int) (a0_4 : Int) (a0_5 : Int) (a0_6 : Int) (a0_7 : Int) (a0_8 : Int) (a0_9 : Int) (l0_10 : List Int) (a1 : Int) (a2 : ByteArray) (a3 : ByteArray) (l4 : List ByteArray) : Option (ByteArray) := if a2.size ≤ 1000000 ∧ l4.length ≤ 1000000 then (vec_Step.go k (⟨a0_0, a0_1, a0_2, a0_3, a0_4, a0_5, a0_6, a0_7, a0_8, a0_9, l0_10⟩ : S24) a1 a2 a3 l4 (List.range a2.size)).bind fun V => some (strOfNums (V.map (fun d => 48 + d))) else none
section
variable {w wx : World} {g11 : Nat} {a0_0 a0_1 a0_2 a0_3 a0_4 a0_5 a0_6 a0_7 a0_8 a0_9 a1 : Int} {l0_10 : List Int} {a3 : ByteArray} {l4 : List ByteArray} {A0_10 A4 TA : Option Addr} {c0_10 c4 Tc : Nat}
theorem vec_Step.mem {w1 : World} (hr0 : Kd.C (Kd.int .i64) w A0_10 l0_10.length l0_10) (hc0 : l0_10.length ≤ c0_10) (hr4 : Kd.C Kd.string w A4 l4.length l4) (hc4 : l4.length ≤ c4)
    (kc : wx.heap[w.heap.size]? = some (.cells #[.int .i64 a0_0, .int .i64 a0_1, .int .i64 a0_2, .int .i64 a0_3, .int .i64 a0_4, .int .i64 a0_5, .int .i64 a0_6, .int .i64 a0_7, .int .i64 a0_8, .int .i64 a0_9, .slice A0_10 l0_10.length c0_10] 24 (0, 0))) (kx : wx.heap[w.heap.size + 1]? = some (.cells #[.int .i64 a1] 3 (0, 0))) (kb : wx.heap[w.heap.size + 2]? = some (.cells #[.string a3] 9 (0, 0))) (kv : wx.heap[w.heap.size + 3]? = some (.cells #[.slice A4 l4.length c4] 37 (0, 0))) (kt : wx.heap[g11]? = some (.cells #[.slice none 0 0] 22 (0, 0)))
    (ho : Kd.R (Kd.int .i64) 3 wx w.heap.size (fun k => w.heap.size + 4 ≤ k ∧ k < w1.heap.size) (.slice TA l4.length Tc) (List.replicate l4.length 0)) (hb : Below w.heap.size w wx) (h4 : w.heap.size + 4 ≤ g11) (hg : g11 = w1.heap.size) :
    vec_Step_1.Mem w (wx.setCell ⟨g11, 0, none⟩ (.slice TA l4.length Tc)) (wx.setCell ⟨g11, 0, none⟩ (.slice TA l4.length Tc)).heap.size w.heap.size g11 (⟨a0_0, a0_1, a0_2, a0_3, a0_4, a0_5, a0_6, a0_7, a0_8, a0_9, l0_10⟩ : S24) a1 a3 l4 (.slice TA l4.length Tc) (List.replicate l4.length 0) A0_10 A4 c0_10 c4 := by
  have hl := blk_lt kt
  refine ⟨rfl, blk_far kc (by show w.heap.size ≠ g11; omega) _, blk_far kx (by show w.heap.size + 1 ≠ g11; omega) _, blk_far kb (by show w.heap.size + 2 ≠ g11; omega) _, blk_far kv (by show w.heap.size + 3 ≠ g11; omega) _, blk_put kt 0 _ rfl, ⟨h4, by simpa using hl⟩, Nat.le_refl _, ?_, hb.setCell (p := ⟨g11, 0, none⟩) (by show w.heap.size ≤ g11; omega) _, hr0, hr4, hc0, hc4⟩
  refine Kd.R_far (p := ⟨g11, 0, none⟩) (Kd.R_mono ho (fun k hk => ⟨hk.1, ?_, ?_⟩)) (fun k hk => hk.2.1) _
  · have := hk.2
    omega
  · have := hk.2
    show k < (World.setCell wx _ _).heap.size
    simp
    omega
theorem vec_Step.each_stable {B : Nat} (W W1 : World) (h : ∃ L, L.length = l4.length ∧ vec_Step_1.Mem w W B w.heap.size g11 (⟨a0_0, a0_1, a0_2, a0_3, a0_4, a0_5, a0_6, a0_7, a0_8, a0_9, l0_10⟩ : S24) a1 a3 l4 (.slice TA l4.length Tc) L A0_10 A4 c0_10 c4) (hs : B ≤ W.heap.size) (hb : Below B W W1) : ∃ L, L.length = l4.length ∧ vec_Step_1.Mem w W1 B w.heap.size g11 (⟨a0_0, a0_1, a0_2, a0_3, a0_4, a0_5, a0_6, a0_7, a0_8, a0_9, l0_10⟩ : S24) a1 a3 l4 (.slice TA l4.length Tc) L A0_10 A4 c0_10 c4 := by
  obtain ⟨L, h1, h2⟩ := h
  exact ⟨L, h1, h2.stable hb⟩
theorem vec_Step.each_call {k : Nat} {a2 : ByteArray} {Vs : List Int} {B : Nat} (h2 : ∀ j, j < a2.size → vec_Step.Digit k (⟨a0_0, a0_1, a0_2, a0_3, a0_4, a0_5, a0_6, a0_7, a0_8, a0_9, l0_10⟩ : S24) a1 a2 a3 l4 j (Vs.getD j 0)) (hl : l4.length ≤ 1000000) (ha : a2.size ≤ 1000000) (j : Nat) (W : World) (hj : j < a2.size)
    (hJ : ∃ L, L.length = l4.length ∧ vec_Step_1.Mem w W B w.heap.size g11 (⟨a0_0, a0_1, a0_2, a0_3, a0_4, a0_5, a0_6, a0_7, a0_8, a0_9, l0_10⟩ : S24) a1 a3 l4 (.slice TA l4.length Tc) L A0_10 A4 c0_10 c4) (hS : B ≤ W.heap.size) :
    Calls Try.prog 119 #[.int .i64 (j : Int), .int .u8 (bt a2 (j : Int)), .pointer (some ⟨w.heap.size + 3, 0, none⟩), .pointer (some ⟨g11, 0, none⟩), .pointer (some ⟨w.heap.size, 0, none⟩), .pointer (some ⟨w.heap.size + 1, 0, none⟩), .pointer (some ⟨w.heap.size + 2, 0, none⟩)] W fun e W' => e = .returned (.int .i64 (Vs.getD j 0)) ∧ (∃ L, L.length = l4.length ∧ vec_Step_1.Mem w W' B w.heap.size g11 (⟨a0_0, a0_1, a0_2, a0_3, a0_4, a0_5, a0_6, a0_7, a0_8, a0_9, l0_10⟩ : S24) a1 a3 l4 (.slice TA l4.length Tc) L A0_10 A4 c0_10 c4) ∧ W.heap.size ≤ W'.heap.size ∧ ∀ k, B ≤ k → k < W.heap.size → W'.heap[k]? = W.heap[k]? := by
  obtain ⟨L, hL, M⟩ := hJ
  obtain ⟨q1, q2, s1, s2, hq, hs, hc, _, _⟩ := h2 j hj
  exact (vec_Step_1.calls k j (bt a2 (j : Int)) q1 s1 _ q2 s2 w W B w.heap.size g11 (⟨a0_0, a0_1, a0_2, a0_3, a0_4, a0_5, a0_6, a0_7, a0_8, a0_9, l0_10⟩ : S24) a1 a3 l4 (.slice TA l4.length Tc) L A0_10 A4 c0_10 c4 M hL hl (by omega) hq hs hc).mono fun e W' ⟨he, hm, hf⟩ => ⟨he, hm, hf.1, hf.2⟩
end
theorem vec_Step.calls (k : Nat) (a0_0 : Int) (a0_1 : Int) (a0_2 : Int) (a0_3 : Int) (a0_4 : Int) (a0_5 : Int) (a0_6 : Int) (a0_7 : Int) (a0_8 : Int) (a0_9 : Int) (A0_10 : Option Addr) (c0_10 : Nat) (l0_10 : List Int) (a1 : Int) (a2 : ByteArray) (a3 : ByteArray) (A4 : Option Addr) (c4 : Nat) (l4 : List ByteArray) (r : ByteArray) (w : World) (hr0_10 : Kd.C (Kd.int .i64) w A0_10 l0_10.length l0_10) (hc0_10 : l0_10.length ≤ c0_10) (hr4 : Kd.C Kd.string w A4 l4.length l4) (hc4 : l4.length ≤ c4) (h : vec_Step.f k a0_0 a0_1 a0_2 a0_3 a0_4 a0_5 a0_6 a0_7 a0_8 a0_9 l0_10 a1 a2 a3 l4 = some r) :
    Calls Try.prog 70 #[.agg #[.int .i64 a0_0, .int .i64 a0_1, .int .i64 a0_2, .int .i64 a0_3, .int .i64 a0_4, .int .i64 a0_5, .int .i64 a0_6, .int .i64 a0_7, .int .i64 a0_8, .int .i64 a0_9, .slice A0_10 l0_10.length c0_10], .int .i64 a1, .string a2, .string a3, .slice A4 l4.length c4] w fun e w' => e = .returned (.string r) ∧ Below w.heap.size w w' := by
  have HR := Sd.mk hr0_10
  have HC := Sd.mk hc0_10
  have HR4 := Sd.mk hr4
  have HC4 := Sd.mk hc4
  clear hr0_10 hc0_10 hr4 hc4
  unfold vec_Step.f at h
  by_cases d1 : a2.size ≤ 1000000 ∧ l4.length ≤ 1000000
  · rw [if_pos d1] at h
    obtain ⟨Vs, hgo, h⟩ := Option.bind_eq_some_iff.mp h
    obtain rfl := Option.some.inj h
    obtain ⟨hd1, hd2⟩ := d1
    obtain ⟨hp1, hp2⟩ := vec_Step.spec hgo
    rw [List.length_range] at hp1
    have hp3 : ∀ j, j < a2.size → vec_Step.Digit k (⟨a0_0, a0_1, a0_2, a0_3, a0_4, a0_5, a0_6, a0_7, a0_8, a0_9, l0_10⟩ : S24) a1 a2 a3 l4 j (Vs.getD j 0) := fun j hj => by
      have := hp2 j (by rw [List.length_range]; exact hj)
      rwa [List.getElem_range] at this
    have HSp1 := Sd.mk hp1
    have HSp2 := Sd.mk hp3
    have HSp3 : Sd (∀ j, j < a2.size → 0 ≤ Vs.getD j 0 ∧ Vs.getD j 0 ≤ 100) := ⟨fun j hj => by
      obtain ⟨_, _, _, _, _, _, _, h0, h1⟩ := hp3 j hj
      exact ⟨h0, h1⟩⟩
    have HD2 := Sd.mk hd2
    have n0 : (l4.length : Int).toNat * 8 ≤ 281474976710656 := by omega
    clear h hgo hp1 hp2 hp3
    go_enter Try.func70, Try.ntmps70
    go_wp2_with (first | ((with_reducible refine gate_dst (N := 14) rfl ?_); refine Kd.R_make (Kd.int .i64) _ 3 rfl (N := 14) rfl 22 _ _ rfl (l4.length : Int) rfl rfl Try.underlying22 (.int .i64 0) 8 info3 rfl (by decide) (by omega) (0 : Int) (ok := fun _ => True) (okp := fun _ => True) rfl (fun _ hk => hk) trivial (Int.natCast_nonneg _) n0 (Below.refl _ _) (Nat.le_refl _) ?_; intro v14 w1 ho hb hg_ hnew_; clear hg_ hnew_; rw [Int.toNat_natCast] at ho; obtain ⟨TA, Tc, eT⟩ := Kd.R_slice ho; rw [List.length_replicate] at eT; subst eT; have KC := Sd.mk (blk_below (blk_alloc (blk_alloc (blk_alloc (blk_new w (.cells #[.int .i64 a0_0, .int .i64 a0_1, .int .i64 a0_2, .int .i64 a0_3, .int .i64 a0_4, .int .i64 a0_5, .int .i64 a0_6, .int .i64 a0_7, .int .i64 a0_8, .int .i64 a0_9, .slice A0_10 l0_10.length c0_10] 24)) (.cells #[.int .i64 a1] 3)) (.cells #[.string a3] 9)) (.cells #[.slice A4 l4.length c4] 37)) hb); have KX := Sd.mk (blk_below (blk_alloc (blk_alloc (blk_new (w.alloc (.cells #[.int .i64 a0_0, .int .i64 a0_1, .int .i64 a0_2, .int .i64 a0_3, .int .i64 a0_4, .int .i64 a0_5, .int .i64 a0_6, .int .i64 a0_7, .int .i64 a0_8, .int .i64 a0_9, .slice A0_10 l0_10.length c0_10] 24)) (.cells #[.int .i64 a1] 3)) (.cells #[.string a3] 9)) (.cells #[.slice A4 l4.length c4] 37)) hb); have KB := Sd.mk (blk_below (blk_alloc (blk_new ((w.alloc (.cells #[.int .i64 a0_0, .int .i64 a0_1, .int .i64 a0_2, .int .i64 a0_3, .int .i64 a0_4, .int .i64 a0_5, .int .i64 a0_6, .int .i64 a0_7, .int .i64 a0_8, .int .i64 a0_9, .slice A0_10 l0_10.length c0_10] 24)).alloc (.cells #[.int .i64 a1] 3)) (.cells #[.string a3] 9)) (.cells #[.slice A4 l4.length c4] 37)) hb); have KV := Sd.mk (blk_below (blk_new (((w.alloc (.cells #[.int .i64 a0_0, .int .i64 a0_1, .int .i64 a0_2, .int .i64 a0_3, .int .i64 a0_4, .int .i64 a0_5, .int .i64 a0_6, .int .i64 a0_7, .int .i64 a0_8, .int .i64 a0_9, .slice A0_10 l0_10.length c0_10] 24)).alloc (.cells #[.int .i64 a1] 3)).alloc (.cells #[.string a3] 9)) (.cells #[.slice A4 l4.length c4] 37)) hb); have HZ := Sd.mk hb.size; have HB1 := Sd.mk (below_then (below_alloc (below_alloc (below_alloc (below_alloc (Below.refl _ w) (.cells #[.int .i64 a0_0, .int .i64 a0_1, .int .i64 a0_2, .int .i64 a0_3, .int .i64 a0_4, .int .i64 a0_5, .int .i64 a0_6, .int .i64 a0_7, .int .i64 a0_8, .int .i64 a0_9, .slice A0_10 l0_10.length c0_10] 24)) (.cells #[.int .i64 a1] 3)) (.cells #[.string a3] 9)) (.cells #[.slice A4 l4.length c4] 37)) (by simp; omega) hb); simp only [vec_Step.size_alloc] at KX KB KV HZ; have HO := Sd.mk (Kd.R_lower (base' := w.heap.size) (Kd.R_mono (Kd.R_bound ho) (ok' := fun k => w.heap.size + 4 ≤ k ∧ k < w1.heap.size) (fun k hk => by have := hk.2.1; simp only [vec_Step.size_alloc] at this; exact ⟨by omega, hk.2.2.1⟩)) (by simp only [vec_Step.size_alloc]; omega)); clear ho hb) | ((with_reducible refine gate_dst (N := 11) rfl ?_); refine box_event ?hg (N := 11) ?hd (cs := #[.slice none 0 0]) (t := 22) ?hr ?_; (case hd => rfl); (case hg => rfl); (case hr => first | (go_simp; done) | (go_simp; rfl)); intro g11 hg wx hbox hb; have G11 := Sd.mk hg; have KC2 := Sd.mk (blk_below KC.out hb); have KX2 := Sd.mk (blk_below KX.out hb); have KB2 := Sd.mk (blk_below KB.out hb); have KV2 := Sd.mk (blk_below KV.out hb); have KT2 := Sd.mk hbox; have HO2 := Sd.mk (Kd.R_below HO.out hb); have HB2 := Sd.mk (below_step HB1.out hb); have hz : wx.cell? ⟨g11, 0, none⟩ = some (.slice none 0 0) := (blk_cell KT2.out 0).trans rfl; have hf := blk_frozen KT2.out 0; clear hg hbox hb) | (go_at_call 106; have HM6 := Sd.mk (vec_Step.mem HR.out HC.out HR4.out HC4.out KC2.out KX2.out KB2.out KV2.out KT2.out HO2.out HB2.out (show w.heap.size + 4 ≤ g11 by have := HZ.out; have := G11.out; omega) G11.out); (with_reducible refine (vec_each.calls_Step _ _ _ _ _ a2 Vs (fun W => ∃ L, L.length = l4.length ∧ vec_Step_1.Mem w W (wx.setCell ⟨g11, 0, none⟩ (.slice TA l4.length Tc)).heap.size w.heap.size g11 (⟨a0_0, a0_1, a0_2, a0_3, a0_4, a0_5, a0_6, a0_7, a0_8, a0_9, l0_10⟩ : S24) a1 a3 l4 (.slice TA l4.length Tc) L A0_10 A4 c0_10 c4) _ HSp1.out (by omega) HSp3.out vec_Step.each_stable (vec_Step.each_call HSp2.out HD2.out (by omega)) ⟨_, List.length_replicate, HM6.out⟩).mono ?_); rintro e1 w7 ⟨rfl, ⟨L7, hl7, hm7⟩⟩; have HM7 := Sd.mk hm7; clear hl7 hm7))
    go_ret
    exact ⟨rfl, HM7.out.bel⟩
  · rw [if_neg d1] at h
    cases h
end Go.Proofs.Ythblnnboeikgcaa.B
