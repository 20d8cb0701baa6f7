import Derived.Test.YthblnnboeikgcaaYBeatSettles27
set_option maxHeartbeats 4000000
set_option maxRecDepth 100000
namespace Go.Proofs.Ythblnnboeikgcaa.B
open Go.RowKit Go.Proofs.YthblnnboeikgcaaW.PrintWords Go.Proofs.YthblnnboeikgcaaW.PrintLast Go.Proofs.YthblnnboeikgcaaW.PrintMore
attribute [local go_sem] max2_int min2_int max_two min_two max_three min_three max_four min_four   -- for this text's walks alone
set_option linter.unusedVariables false
set_option linter.unusedSimpArgs false
def vec_Step_1.vote (s : ByteArray) (place : Int) : Int := if (s.size : Int) ≤ place ∨ bt s place < 48 ∨ 50 < bt s place then -1 else bt s place - 48
theorem vec_Step_1.vote_at (s : ByteArray) (place : Int) (h0 : 0 ≤ place) : vec_vote.f s place = some (vec_Step_1.vote s place) := by
  unfold vec_vote.f vec_Step_1.vote
  by_cases d1 : place ≥ (s.size : Int)
  · rw [if_pos d1, if_pos (.inl d1)]
  · rw [if_neg d1, if_pos h0, if_pos (by omega)]
    by_cases d2 : bt s place < 48
    · rw [if_pos d2, if_pos (.inr (.inl d2))]
    · by_cases d3 : bt s place > 50
      · rw [if_neg d2, if_pos d3, if_pos (.inr (.inr d3))]
      · rw [if_neg d2, if_neg d3, if_neg (by omega)]
        congr 1
        omega
structure vec_Step_1.Mem (w0 W : World) (B bs b11 : Nat) (c : S24) (x : Int) (boss : ByteArray) (VS : List ByteArray) (TV : Value) (L : List Int) (AT AV : Option Addr) (ct cv : Nat) : Prop where
  hbs : w0.heap.size = bs
  kc : W.heap[bs]? = some (.cells #[.int .i64 c.f0, .int .i64 c.f1, .int .i64 c.f2, .int .i64 c.f3, .int .i64 c.f4, .int .i64 c.f5, .int .i64 c.f6, .int .i64 c.f7, .int .i64 c.f8, .int .i64 c.f9, .slice AT c.f10.length ct] 24 (0, 0))
  kx : W.heap[bs + 1]? = some (.cells #[.int .i64 x] 3 (0, 0))
  kb : W.heap[bs + 2]? = some (.cells #[.string boss] 9 (0, 0))
  kv : W.heap[bs + 3]? = some (.cells #[.slice AV VS.length cv] 37 (0, 0))
  kt : W.heap[b11]? = some (.cells #[TV] 22 (0, 0))
  l11 : bs + 4 ≤ b11 ∧ b11 < B
  hB : B ≤ W.heap.size
  row : Kd.R (Kd.int .i64) 3 W bs (fun k => bs + 4 ≤ k ∧ k ≠ b11 ∧ k < B) TV L
  bel : Below w0.heap.size w0 W
  rt0 : Kd.C (Kd.int .i64) w0 AT c.f10.length c.f10
  rv0 : Kd.C Kd.string w0 AV VS.length VS
  hct : c.f10.length ≤ ct
  hcv : VS.length ≤ cv
def vec_Step_1.Fr (B : Nat) (W W' : World) : Prop := W.heap.size ≤ W'.heap.size ∧ ∀ k, B ≤ k → k < W.heap.size → W'.heap[k]? = W.heap[k]?
section
variable {w0 W : World} {B bs b11 : Nat} {c : S24} {x : Int} {boss : ByteArray} {VS : List ByteArray} {TV : Value} {L : List Int} {AT AV : Option Addr} {ct cv : Nat}
theorem vec_Step_1.Mem.below {W1 : World} (M : vec_Step_1.Mem w0 W B bs b11 c x boss VS TV L AT AV ct cv) (h : Below W.heap.size W W1) : vec_Step_1.Mem w0 W1 B bs b11 c x boss VS TV L AT AV ct cv :=
  ⟨M.hbs, blk_below M.kc h, blk_below M.kx h, blk_below M.kb h, blk_below M.kv h, blk_below M.kt h, M.l11, Nat.le_trans M.hB h.size, Kd.R_below M.row h, below_step M.bel h, M.rt0, M.rv0, M.hct, M.hcv⟩
theorem vec_Step_1.Mem.stable {W1 : World} (M : vec_Step_1.Mem w0 W B bs b11 c x boss VS TV L AT AV ct cv) (h : Below B W W1) : vec_Step_1.Mem w0 W1 B bs b11 c x boss VS TV L AT AV ct cv :=
  ⟨M.hbs, (h.block _ (by have := M.l11; omega)).trans M.kc, (h.block _ (by have := M.l11; omega)).trans M.kx, (h.block _ (by have := M.l11; omega)).trans M.kb, (h.block _ (by have := M.l11; omega)).trans M.kv, (h.block _ M.l11.2).trans M.kt, M.l11, Nat.le_trans M.hB h.size,
    Kd.R_step M.row (fun k hk _ => h.block k hk.2.2), M.bel.trans (h.mono (by have := M.hbs; have := M.l11; omega)), M.rt0, M.rv0, M.hct, M.hcv⟩
theorem vec_Step_1.Mem.drew (M : vec_Step_1.Mem w0 W B bs b11 c x boss VS TV L AT AV ct cv) : vec_Step_1.Mem w0 W.drew B bs b11 c x boss VS TV L AT AV ct cv := M.below (below_drew (Below.refl _ _))
theorem vec_Step_1.Mem.drewN (M : vec_Step_1.Mem w0 W B bs b11 c x boss VS TV L AT AV ct cv) (n : Nat) : vec_Step_1.Mem w0 (W.drewN n) B bs b11 c x boss VS TV L AT AV ct cv := M.below (KW.drewN_below n)
theorem vec_Step_1.Mem.put {gt cap : Nat} (M : vec_Step_1.Mem w0 W B bs b11 c x boss VS (.slice (some ⟨gt, 0, none⟩) VS.length cap) L AT AV ct cv) (hL : L.length = VS.length) (h0 : 0 < VS.length) (j : Nat) (v : Int) :
    vec_Step_1.Mem w0 (W.setCell ⟨gt, j, none⟩ (.int .i64 v)) B bs b11 c x boss VS (.slice (some ⟨gt, 0, none⟩) VS.length cap) (L.set j v) AT AV ct cv := by
  obtain ⟨g1, g2, g3⟩ := M.row.1 gt rfl
  have hs := M.hbs
  exact ⟨M.hbs, blk_far M.kc (by show bs ≠ gt; omega) _, blk_far M.kx (by show bs + 1 ≠ gt; omega) _, blk_far M.kb (by show bs + 2 ≠ gt; omega) _, blk_far M.kv (by show bs + 3 ≠ gt; omega) _, blk_far M.kt (by show b11 ≠ gt; omega) _, M.l11, by simpa using M.hB,
    KW.put_int M.row hL j v, M.bel.setCell (p := ⟨gt, j, none⟩) (by show w0.heap.size ≤ gt; omega) _, M.rt0, M.rv0, M.hct, M.hcv⟩
theorem vec_Step_1.Mem.c11 (M : vec_Step_1.Mem w0 W B bs b11 c x boss VS TV L AT AV ct cv) : W.cell? ⟨b11, 0, none⟩ = some TV := (blk_cell M.kt 0).trans rfl
theorem vec_Step_1.Mem.cx (M : vec_Step_1.Mem w0 W B bs b11 c x boss VS TV L AT AV ct cv) : W.cell? ⟨bs + 1, 0, none⟩ = some (.int .i64 x) := (blk_cell M.kx 0).trans rfl
theorem vec_Step_1.Mem.cb (M : vec_Step_1.Mem w0 W B bs b11 c x boss VS TV L AT AV ct cv) : W.cell? ⟨bs + 2, 0, none⟩ = some (.string boss) := (blk_cell M.kb 0).trans rfl
theorem vec_Step_1.Mem.cvv (M : vec_Step_1.Mem w0 W B bs b11 c x boss VS TV L AT AV ct cv) : W.cell? ⟨bs + 3, 0, none⟩ = some (.slice AV VS.length cv) := (blk_cell M.kv 0).trans rfl
theorem vec_Step_1.Mem.cc0 (M : vec_Step_1.Mem w0 W B bs b11 c x boss VS TV L AT AV ct cv) : W.cell? ⟨bs, 0, none⟩ = some (.int .i64 c.f0) := (blk_cell M.kc 0).trans rfl
theorem vec_Step_1.Mem.cc1 (M : vec_Step_1.Mem w0 W B bs b11 c x boss VS TV L AT AV ct cv) : W.cell? ⟨bs, 1, none⟩ = some (.int .i64 c.f1) := (blk_cell M.kc 1).trans rfl
theorem vec_Step_1.Mem.cc2 (M : vec_Step_1.Mem w0 W B bs b11 c x boss VS TV L AT AV ct cv) : W.cell? ⟨bs, 2, none⟩ = some (.int .i64 c.f2) := (blk_cell M.kc 2).trans rfl
theorem vec_Step_1.Mem.cc3 (M : vec_Step_1.Mem w0 W B bs b11 c x boss VS TV L AT AV ct cv) : W.cell? ⟨bs, 3, none⟩ = some (.int .i64 c.f3) := (blk_cell M.kc 3).trans rfl
theorem vec_Step_1.Mem.cc4 (M : vec_Step_1.Mem w0 W B bs b11 c x boss VS TV L AT AV ct cv) : W.cell? ⟨bs, 4, none⟩ = some (.int .i64 c.f4) := (blk_cell M.kc 4).trans rfl
theorem vec_Step_1.Mem.cc5 (M : vec_Step_1.Mem w0 W B bs b11 c x boss VS TV L AT AV ct cv) : W.cell? ⟨bs, 5, none⟩ = some (.int .i64 c.f5) := (blk_cell M.kc 5).trans rfl
theorem vec_Step_1.Mem.cc6 (M : vec_Step_1.Mem w0 W B bs b11 c x boss VS TV L AT AV ct cv) : W.cell? ⟨bs, 6, none⟩ = some (.int .i64 c.f6) := (blk_cell M.kc 6).trans rfl
theorem vec_Step_1.Mem.cc7 (M : vec_Step_1.Mem w0 W B bs b11 c x boss VS TV L AT AV ct cv) : W.cell? ⟨bs, 7, none⟩ = some (.int .i64 c.f7) := (blk_cell M.kc 7).trans rfl
theorem vec_Step_1.Mem.cc8 (M : vec_Step_1.Mem w0 W B bs b11 c x boss VS TV L AT AV ct cv) : W.cell? ⟨bs, 8, none⟩ = some (.int .i64 c.f8) := (blk_cell M.kc 8).trans rfl
theorem vec_Step_1.Mem.cc9 (M : vec_Step_1.Mem w0 W B bs b11 c x boss VS TV L AT AV ct cv) : W.cell? ⟨bs, 9, none⟩ = some (.int .i64 c.f9) := (blk_cell M.kc 9).trans rfl
theorem vec_Step_1.Mem.cc10 (M : vec_Step_1.Mem w0 W B bs b11 c x boss VS TV L AT AV ct cv) : W.cell? ⟨bs, 10, none⟩ = some (.slice AT c.f10.length ct) := (blk_cell M.kc 10).trans rfl
theorem vec_Step_1.Mem.rowT {TA : Option Addr} {Tn Tc : Nat} (M : vec_Step_1.Mem w0 W B bs b11 c x boss VS (.slice TA Tn Tc) L AT AV ct cv) : Tn = L.length ∧ L.length ≤ Tc ∧ Kd.C (Kd.int .i64) W TA L.length L := by
  obtain ⟨h1, h2, h3⟩ := Kd.R_reads' M.row
  exact ⟨h1, by omega, h3⟩
theorem vec_Step_1.Fr.refl : vec_Step_1.Fr B W W := ⟨Nat.le_refl _, fun _ _ _ => rfl⟩
theorem vec_Step_1.Fr.below {W1 W2 : World} (h : vec_Step_1.Fr B W W1) (hb : Below W1.heap.size W1 W2) : vec_Step_1.Fr B W W2 := ⟨Nat.le_trans h.1 hb.size, fun k h1 h2 => (hb.block k (Nat.lt_of_lt_of_le h2 h.1)).trans (h.2 k h1 h2)⟩
theorem vec_Step_1.Fr.drew {W1 : World} (h : vec_Step_1.Fr B W W1) : vec_Step_1.Fr B W W1.drew := h.below (below_drew (Below.refl _ _))
theorem vec_Step_1.Fr.drewN {W1 : World} (h : vec_Step_1.Fr B W W1) (n : Nat) : vec_Step_1.Fr B W (W1.drewN n) := h.below (KW.drewN_below n)
theorem vec_Step_1.Fr.put {W1 : World} (h : vec_Step_1.Fr B W W1) {p : Addr} (hp : p.block < B) (v : Value) : vec_Step_1.Fr B W (W1.setCell p v) := ⟨by have := h.1; simpa using this, fun k h1 h2 => (Below.heap_setCell W1 p v k (by omega)).trans (h.2 k h1 h2)⟩
end
theorem vec_Step_1.set_take (L VL : List Int) (j : Nat) (hL : j < L.length) (hV : j < VL.length) (h : L.take j = VL.take j) (v : Int) (hv : VL.getD j 0 = v) : (L.set j v).take (j + 1) = VL.take (j + 1) := by
  rw [List.take_succ_eq_append_getElem (by rw [List.length_set]; exact hL), List.take_set_of_le (Nat.le_refl _), h, List.take_succ_eq_append_getElem hV, List.getElem_set_self]
  congr 2
  rw [← hv]
  simp [List.getD_eq_getElem?_getD, hV]
theorem vec_Step_1.get_map (VS : List ByteArray) (g : ByteArray → Int) (j : Nat) (hj : j < VS.length) : (VS.map g).getD j 0 = g (rdOf ByteArray.empty VS (j : Int)) := by
  simp [rdOf, List.getD_eq_getElem?_getD, hj]
theorem vec_Step_1.calls (k : Nat) (place : Nat) (b q1 s1 y : Int) (q2 s2 : Bool) (w0 w : World) (B bs b11 : Nat) (c : S24) (x : Int) (boss : ByteArray) (VS : List ByteArray) (TV : Value) (L : List Int) (AT AV : Option Addr) (ct cv : Nat) (M : vec_Step_1.Mem w0 w B bs b11 c x boss VS TV L AT AV ct cv) (hL : L.length = VS.length) (hV : VS.length ≤ 1000000) (hp : place ≤ 1000000)
    (hq : vec_read.f b = some (q1, q2)) (hs : king_Step.f k c.f0 c.f1 c.f2 c.f3 c.f4 c.f5 c.f6 c.f7 c.f8 c.f9 c.f10 x q1 q2 (vec_Step_1.vote boss (place : Int)) (VS.map (fun s => vec_Step_1.vote s (place : Int))) = some (s1, s2)) (hc : king_Code.f s1 s2 = some y) :
    Calls Try.prog 119 #[.int .i64 (place : Int), .int .u8 b, .pointer (some ⟨bs + 3, 0, none⟩), .pointer (some ⟨b11, 0, none⟩), .pointer (some ⟨bs, 0, none⟩), .pointer (some ⟨bs + 1, 0, none⟩), .pointer (some ⟨bs + 2, 0, none⟩)] w fun e w' => e = .returned (.int .i64 y) ∧ (∃ L', L'.length = VS.length ∧ vec_Step_1.Mem w0 w' B bs b11 c x boss VS TV L' AT AV ct cv) ∧ vec_Step_1.Fr B w w' := by
  have hu24 := Try.underlying24
  have HM := Sd.mk M
  have HL := Sd.mk hL
  have HRd := Sd.mk hq
  have HSt := Sd.mk hs
  have HCd := Sd.mk hc
  have HVb := Sd.mk (vec_Step_1.vote_at boss (place : Int) (by omega))
  have HVL := Sd.mk (show (VS.map (fun s => vec_Step_1.vote s (place : Int))).length = VS.length from List.length_map _)
  have HVa := Sd.mk (vec_Step_1.get_map VS (fun s => vec_Step_1.vote s (place : Int)))
  obtain ⟨TL, hTL⟩ : ∃ TL, VS.map (fun s => vec_Step_1.vote s (place : Int)) = TL := ⟨_, rfl⟩
  rw [hTL] at HVL HVa HSt
  obtain ⟨TA, Tc, hTV⟩ := Kd.R_slice HM.out.row
  have HT1 := Sd.mk (show L.length = VS.length from hL)
  rw [hL] at hTV
  subst hTV
  clear M hL hq hs hc hTL
  have q3 := HM.out.cvv
  go_enter Try.func119, Try.ntmps119
  go_wp2
  clear q3
  go_loopw [14] (fun v14 wr => ∃ (j : Nat) (L' : List Int), v14 = .int .i64 j ∧ j ≤ VS.length ∧ Sd (L'.length = VS.length) ∧ Sd (L'.take j = TL.take j) ∧ Sd (vec_Step_1.Mem w0 wr B bs b11 c x boss VS (.slice TA VS.length Tc) L' AT AV ct cv) ∧ Sd (vec_Step_1.Fr B w wr)) (fun i _ => VS.length - (intOf i).toNat)
  case atStart => exact ⟨0, L, rfl, Nat.zero_le _, HT1, ⟨rfl⟩, HM, ⟨vec_Step_1.Fr.refl⟩⟩
  case round =>
    obtain ⟨j, L', rfl, hj, HLl, HTk, HM2, HF⟩ := hrel
    by_cases hlt : j < VS.length
    · have hltb : decide ((j : Int) < (VS.length : Int)) = true := decide_eq_true (by omega)
      have hltb2 : decide (j < VS.length) = true := decide_eq_true hlt
      obtain ⟨gt, cap, eT, _⟩ := Kd.R_form HM2.out.row (by rw [HLl.out]; omega)
      rw [HLl.out] at eT
      injection eT with eA _ eC
      subst eA
      subst eC
      obtain ⟨ad, ea, hy0⟩ := Kd.at_string (Kd.C_below HM2.out.rv0 HM2.out.bel) (j : Int) (by omega) (by omega)
      subst ea
      have HVj := Sd.mk (HVa.out j hlt)
      generalize rdOf ByteArray.empty VS (j : Int) = s at hy0 HVj
      rw [Int.toNat_natCast] at hy0
      have HVt := Sd.mk (vec_Step_1.vote_at s (place : Int) (by omega))
      have hj0 : (j : Int) < (VS.length : Int) := by omega
      have hj1 : 0 ≤ (j : Int) := by omega
      go_wp2
      refine start_ (n := 7) (S := fun w' => w'.cell? ⟨b11, 0, none⟩ = some (.slice (some ⟨gt, 0, none⟩) VS.length Tc)) (ds := [6]) #[false,false,false,false,false,false,false] (by kernel_rfl) rfl rfl (HM2.out.c11) (fun hHeld => ?_)
      refine pure_ (i := 1) (N := some 20) (v := ?_) (a' := ?_) #[false,true,false,false,false,false,false] rfl rfl (by kernel_rfl) (fun _ _ _ h => h) (Or.inl ⟨by rfl, ?_⟩) ?_ ?_
      rotate_left
      · intro w'
        go_simp
        with_reducible rfl
      rotate_left
      · simp only [Act.put, List.setIfInBounds_toArray, List.set_cons_zero, List.set_cons_succ, i64_w, i32_w]
        rfl
      refine pure_ (i := 2) (N := some 21) (v := ?_) (a' := ?_) #[false,true,true,false,false,false,false] rfl rfl (by kernel_rfl) (fun _ _ _ h => h) (Or.inl ⟨by rfl, ?_⟩) ?_ ?_
      rotate_left
      · intro w'
        go_simp
        with_reducible rfl
      rotate_left
      · simp only [Act.put, List.setIfInBounds_toArray, List.set_cons_zero, List.set_cons_succ, i64_w, i32_w]
        rfl
      refine pure_ (i := 3) (N := some 22) (v := ?_) (a' := ?_) #[false,true,true,true,false,false,false] rfl rfl (by kernel_rfl) (fun _ _ _ h => h) (Or.inl ⟨by rfl, ?_⟩) ?_ ?_
      rotate_left
      · intro w'
        go_simp
        with_reducible rfl
      rotate_left
      · simp only [Act.put, List.setIfInBounds_toArray, List.set_cons_zero, List.set_cons_succ, i64_w, i32_w]
        rfl
      refine take_ (i := 0) (N := some 19) (v := ?_) (a' := ?_) #[true,true,true,true,false,false,false] rfl rfl (by kernel_rfl) (fun _ _ _ h => h) (Or.inl ⟨by rfl, ?_⟩) hHeld ?_ ?_
      rotate_left
      · intro w' s0
        go_simp
        with_reducible rfl
      rotate_left
      · simp only [Act.put, List.setIfInBounds_toArray, List.set_cons_zero, List.set_cons_succ, i64_w, i32_w]
        rfl
      refine one_ (i := 4) (N := some 23) #[true,true,true,true,true,false,false] rfl rfl (by kernel_rfl) (by decide) (fun K hK => ?_)
      refine goes_ Try.func120 (by kernel_rfl) rfl #[.string s, .int .i64 (place : Int)] (by rfl) rfl rfl (by simp only [List.map_toArray, List.map_cons, List.map_nil]; rfl) ?_
      with_reducible refine (vec_vote.calls s (place : Int) (vec_Step_1.vote s (place : Int)) _ HVt.out).mono ?_
      rintro e' w2 ⟨rfl, hd⟩
      refine ⟨_, rfl, ?_⟩
      obtain ⟨⟨nd, rfl⟩⟩ := hd
      have HM4 := Sd.mk (HM2.out.drewN (1 + nd))
      have HF4 := Sd.mk (HF.out.drewN (1 + nd))
      obtain ⟨hz, hf⟩ := KW.get_int HM2.out.row HLl.out hlt
      refine hK.out _ _ (HM4.out.c11) (fun hHeld => ?_)
      clear hK K
      refine norm_ (a' := ?_) ?_ ?_
      rotate_left
      · show Act.put _ (some 23) _ = _
        simp only [Act.put, List.setIfInBounds_toArray, List.set_cons_zero, List.set_cons_succ, i64_w, i32_w]
        rfl
      refine pure_ (i := 5) (N := some 24) (v := ?_) (a' := ?_) #[true,true,true,true,true,true,false] rfl rfl (by kernel_rfl) (fun _ _ _ h => h) (Or.inl ⟨by rfl, ?_⟩) ?_ ?_
      rotate_left
      · intro w'
        go_simp
        with_reducible rfl
      rotate_left
      · simp only [Act.put, List.setIfInBounds_toArray, List.set_cons_zero, List.set_cons_succ, i64_w, i32_w]
        rfl
      refine last_ (i := 6) (N := none) #[true,true,true,true,true,true,true] rfl rfl (by kernel_rfl) (by decide) (fun K hK => ?_)
      refine skip_ (w1 := ?_) (by rfl) rfl ?_ ?_
      rotate_left
      · go_simp
        rfl
      refine hK.out _ _ ?_
      clear hK K
      refine done_ (by kernel_rfl) ?_
      have HM9 := Sd.mk (HM4.out.put HLl.out (by omega) j (vec_Step_1.vote s (place : Int)))
      have HF9 := Sd.mk (HF4.out.put (p := ⟨_, j, none⟩) (HM4.out.row.1 _ rfl).2.2 (.int .i64 (vec_Step_1.vote s (place : Int))))
      have HT9 := Sd.mk (vec_Step_1.set_take L' TL j (by rw [HLl.out]; exact hlt) (by rw [HVL.out]; exact hlt) HTk.out _ HVj.out)
      clear hz hf
      generalize (World.setCell _ ⟨_, j, none⟩ (.int .i64 (vec_Step_1.vote s (place : Int)))) = w9 at HM9 HF9 ⊢
      go_wp2
      go_roundw
      case rel => exact ⟨j + 1, _, by go_num, hlt, ⟨by rw [List.length_set]; exact HLl.out⟩, HT9, HM9, HF9⟩
      case measure => simp [intOf]; omega
    · obtain rfl : j = VS.length := by omega
      have hltb : decide ((VS.length : Int) < (VS.length : Int)) = false := decide_eq_false (by omega)
      have hLT : TL = L' := by
        have := HTk.out
        rw [List.take_of_length_le (by rw [HLl.out]; exact Nat.le_refl _), List.take_of_length_le (by rw [HVL.out]; exact Nat.le_refl _)] at this
        exact this.symm
      subst hLT
      have HTn := Sd.mk HLl.out
      go_wp2
      refine start_ (n := 11) (S := fun w' => w'.cell? ⟨bs, 0, none⟩ = some (.int .i64 c.f0) ∧ w'.cell? ⟨bs, 1, none⟩ = some (.int .i64 c.f1) ∧ w'.cell? ⟨bs, 2, none⟩ = some (.int .i64 c.f2) ∧ w'.cell? ⟨bs, 3, none⟩ = some (.int .i64 c.f3) ∧ w'.cell? ⟨bs, 4, none⟩ = some (.int .i64 c.f4) ∧ w'.cell? ⟨bs, 5, none⟩ = some (.int .i64 c.f5) ∧ w'.cell? ⟨bs, 6, none⟩ = some (.int .i64 c.f6) ∧ w'.cell? ⟨bs, 7, none⟩ = some (.int .i64 c.f7) ∧ w'.cell? ⟨bs, 8, none⟩ = some (.int .i64 c.f8) ∧ w'.cell? ⟨bs, 9, none⟩ = some (.int .i64 c.f9) ∧ w'.cell? ⟨bs, 10, none⟩ = some (.slice AT c.f10.length ct) ∧ w'.cell? ⟨bs + 1, 0, none⟩ = some (.int .i64 x) ∧ w'.cell? ⟨bs + 2, 0, none⟩ = some (.string boss) ∧ w'.cell? ⟨b11, 0, none⟩ = some (.slice TA VS.length Tc)) (ds := []) #[false,false,false,false,false,false,false,false,false,false,false] (by kernel_rfl) rfl rfl ⟨HM2.out.cc0, HM2.out.cc1, HM2.out.cc2, HM2.out.cc3, HM2.out.cc4, HM2.out.cc5, HM2.out.cc6, HM2.out.cc7, HM2.out.cc8, HM2.out.cc9, HM2.out.cc10, HM2.out.cx, HM2.out.cb, HM2.out.c11⟩ (fun hHeld => ?_)
      refine pure_ (i := 2) (N := some 28) (v := ?_) (a' := ?_) #[false,false,true,false,false,false,false,false,false,false,false] rfl rfl (by kernel_rfl) (fun _ _ _ h => h) (Or.inl ⟨by rfl, ?_⟩) ?_ ?_
      rotate_left
      · intro w'
        go_simp
        with_reducible rfl
      rotate_left
      · simp only [Act.put, List.setIfInBounds_toArray, List.set_cons_zero, List.set_cons_succ, i64_w, i32_w]
        rfl
      refine pure_ (i := 5) (N := some 31) (v := ?_) (a' := ?_) #[false,false,true,false,false,true,false,false,false,false,false] rfl rfl (by kernel_rfl) (fun _ _ _ h => h) (Or.inl ⟨by rfl, ?_⟩) ?_ ?_
      rotate_left
      · intro w'
        go_simp
        with_reducible rfl
      rotate_left
      · simp only [Act.put, List.setIfInBounds_toArray, List.set_cons_zero, List.set_cons_succ, i64_w, i32_w]
        rfl
      refine take_ (i := 0) (N := some 26) (v := ?_) (a' := ?_) #[true,false,true,false,false,true,false,false,false,false,false] rfl rfl (by kernel_rfl) (fun _ _ _ h => h) (Or.inl ⟨by rfl, ?_⟩) hHeld ?_ ?_
      rotate_left
      · rintro w' ⟨s0, s1, s2, s3, s4, s5, s6, s7, s8, s9, s10, s11, s12, s13⟩
        go_simp
        with_reducible rfl
      rotate_left
      · simp only [Act.put, List.setIfInBounds_toArray, List.set_cons_zero, List.set_cons_succ, i64_w, i32_w]
        rfl
      refine take_ (i := 1) (N := some 27) (v := ?_) (a' := ?_) #[true,true,true,false,false,true,false,false,false,false,false] rfl rfl (by kernel_rfl) (fun _ _ _ h => h) (Or.inl ⟨by rfl, ?_⟩) hHeld ?_ ?_
      rotate_left
      · rintro w' ⟨s0, s1, s2, s3, s4, s5, s6, s7, s8, s9, s10, s11, s12, s13⟩
        go_simp
        with_reducible rfl
      rotate_left
      · simp only [Act.put, List.setIfInBounds_toArray, List.set_cons_zero, List.set_cons_succ, i64_w, i32_w]
        rfl
      refine take_ (i := 4) (N := some 30) (v := ?_) (a' := ?_) #[true,true,true,false,true,true,false,false,false,false,false] rfl rfl (by kernel_rfl) (fun _ _ _ h => h) (Or.inl ⟨by rfl, ?_⟩) hHeld ?_ ?_
      rotate_left
      · rintro w' ⟨s0, s1, s2, s3, s4, s5, s6, s7, s8, s9, s10, s11, s12, s13⟩
        go_simp
        with_reducible rfl
      rotate_left
      · simp only [Act.put, List.setIfInBounds_toArray, List.set_cons_zero, List.set_cons_succ, i64_w, i32_w]
        rfl
      refine take_ (i := 7) (N := some 33) (v := ?_) (a' := ?_) #[true,true,true,false,true,true,false,true,false,false,false] rfl rfl (by kernel_rfl) (fun _ _ _ h => h) (Or.inl ⟨by rfl, ?_⟩) hHeld ?_ ?_
      rotate_left
      · rintro w' ⟨s0, s1, s2, s3, s4, s5, s6, s7, s8, s9, s10, s11, s12, s13⟩
        go_simp
        with_reducible rfl
      rotate_left
      · simp only [Act.put, List.setIfInBounds_toArray, List.set_cons_zero, List.set_cons_succ, i64_w, i32_w]
        rfl
      refine one_ (i := 3) (N := some 29) #[true,true,true,true,true,true,false,true,false,false,false] rfl rfl (by kernel_rfl) (by decide) (fun K hK => ?_)
      refine goes_ Try.func108 (by kernel_rfl) rfl #[.int .u8 b] (by rfl) rfl rfl (by simp only [List.map_toArray, List.map_cons, List.map_nil]; rfl) ?_
      with_reducible refine (vec_read.calls b q1 q2 _ HRd.out).mono ?_
      rintro e' w3 ⟨rfl, hb⟩
      refine ⟨_, rfl, ?_⟩
      have HM5 := Sd.mk (HM2.out.drew.below hb)
      have HF5 := Sd.mk (HF.out.drew.below hb)
      clear hb
      refine hK.out _ _ ⟨HM5.out.cc0, HM5.out.cc1, HM5.out.cc2, HM5.out.cc3, HM5.out.cc4, HM5.out.cc5, HM5.out.cc6, HM5.out.cc7, HM5.out.cc8, HM5.out.cc9, HM5.out.cc10, HM5.out.cx, HM5.out.cb, HM5.out.c11⟩ (fun hHeld => ?_)
      clear hK K
      refine norm_ (a' := ?_) ?_ ?_
      rotate_left
      · show Act.put _ (some 29) _ = _
        simp only [Act.put, List.setIfInBounds_toArray, List.set_cons_zero, List.set_cons_succ, i64_w, i32_w]
        rfl
      refine one_ (i := 6) (N := some 32) #[true,true,true,true,true,true,true,true,false,false,false] rfl rfl (by kernel_rfl) (by decide) (fun K hK => ?_)
      refine goes_ Try.func120 (by kernel_rfl) rfl #[.string boss, .int .i64 (place : Int)] (by rfl) rfl rfl (by simp only [List.map_toArray, List.map_cons, List.map_nil]; rfl) ?_
      with_reducible refine (vec_vote.calls boss (place : Int) (vec_Step_1.vote boss (place : Int)) _ HVb.out).mono ?_
      rintro e' w4 ⟨rfl, hd⟩
      refine ⟨_, rfl, ?_⟩
      obtain ⟨⟨nd, rfl⟩⟩ := hd
      have HM6 := Sd.mk (HM5.out.drewN nd)
      have HF6 := Sd.mk (HF5.out.drewN nd)
      refine hK.out _ _ ⟨HM6.out.cc0, HM6.out.cc1, HM6.out.cc2, HM6.out.cc3, HM6.out.cc4, HM6.out.cc5, HM6.out.cc6, HM6.out.cc7, HM6.out.cc8, HM6.out.cc9, HM6.out.cc10, HM6.out.cx, HM6.out.cb, HM6.out.c11⟩ (fun hHeld => ?_)
      clear hK K
      refine norm_ (a' := ?_) ?_ ?_
      rotate_left
      · show Act.put _ (some 32) _ = _
        simp only [Act.put, List.setIfInBounds_toArray, List.set_cons_zero, List.set_cons_succ, i64_w, i32_w]
        rfl
      refine one_ (i := 8) (N := some 34) #[true,true,true,true,true,true,true,true,true,false,false] rfl rfl (by kernel_rfl) (by decide) (fun K hK => ?_)
      refine goes_ Try.func121 (by kernel_rfl) rfl #[.agg #[.int .i64 c.f0, .int .i64 c.f1, .int .i64 c.f2, .int .i64 c.f3, .int .i64 c.f4, .int .i64 c.f5, .int .i64 c.f6, .int .i64 c.f7, .int .i64 c.f8, .int .i64 c.f9, .slice AT c.f10.length ct], .int .i64 x, .agg #[.int .i64 q1, .bool q2], .int .i64 (vec_Step_1.vote boss (place : Int)), .slice TA VS.length Tc] (by rfl) rfl rfl (by simp only [List.map_toArray, List.map_cons, List.map_nil]; rfl) ?_
      with_reducible refine (calls_of_args (by rw [HTn.out]) (king_Step.calls k c.f0 c.f1 c.f2 c.f3 c.f4 c.f5 c.f6 c.f7 c.f8 c.f9 _ _ c.f10 x _ _ _ _ _ TL s1 s2 _ (Kd.C_below HM.out.rt0 HM6.out.bel) HM.out.hct HM6.out.rowT.2.2 HM6.out.rowT.2.1 HSt.out)).mono ?_
      rintro e' w5 ⟨rfl, hb⟩
      refine ⟨_, rfl, ?_⟩
      have HM7 := Sd.mk (HM6.out.below hb)
      have HF7 := Sd.mk (HF6.out.below hb)
      clear hb
      refine hK.out _ _ ⟨HM7.out.cc0, HM7.out.cc1, HM7.out.cc2, HM7.out.cc3, HM7.out.cc4, HM7.out.cc5, HM7.out.cc6, HM7.out.cc7, HM7.out.cc8, HM7.out.cc9, HM7.out.cc10, HM7.out.cx, HM7.out.cb, HM7.out.c11⟩ (fun hHeld => ?_)
      clear hK K
      refine norm_ (a' := ?_) ?_ ?_
      rotate_left
      · show Act.put _ (some 34) _ = _
        simp only [Act.put, List.setIfInBounds_toArray, List.set_cons_zero, List.set_cons_succ, i64_w, i32_w]
        rfl
      refine one_ (i := 9) (N := some 35) #[true,true,true,true,true,true,true,true,true,true,false] rfl rfl (by kernel_rfl) (by decide) (fun K hK => ?_)
      refine goes_ Try.func88 (by kernel_rfl) rfl #[.agg #[.int .i64 s1, .bool s2]] (by rfl) rfl rfl (by simp only [List.map_toArray, List.map_cons, List.map_nil]; rfl) ?_
      with_reducible refine (king_Code.calls s1 s2 y _ HCd.out).mono ?_
      rintro e' w6 ⟨rfl, hb⟩
      refine ⟨_, rfl, ?_⟩
      have HM8 := Sd.mk (HM7.out.below hb)
      have HF8 := Sd.mk (HF7.out.below hb)
      clear hb
      refine hK.out _ _ ⟨HM8.out.cc0, HM8.out.cc1, HM8.out.cc2, HM8.out.cc3, HM8.out.cc4, HM8.out.cc5, HM8.out.cc6, HM8.out.cc7, HM8.out.cc8, HM8.out.cc9, HM8.out.cc10, HM8.out.cx, HM8.out.cb, HM8.out.c11⟩ (fun hHeld => ?_)
      clear hK K
      refine norm_ (a' := ?_) ?_ ?_
      rotate_left
      · show Act.put _ (some 35) _ = _
        simp only [Act.put, List.setIfInBounds_toArray, List.set_cons_zero, List.set_cons_succ, i64_w, i32_w]
        rfl
      refine pure_ (i := 10) (N := some 9) (v := ?_) (a' := ?_) #[true,true,true,true,true,true,true,true,true,true,true] rfl rfl (by kernel_rfl) (fun _ _ _ h => h) (Or.inl ⟨by rfl, ?_⟩) ?_ ?_
      rotate_left
      · intro w'
        go_simp
        with_reducible rfl
      rotate_left
      · simp only [Act.put, List.setIfInBounds_toArray, List.set_cons_zero, List.set_cons_succ, i64_w, i32_w]
        rfl
      refine done_ (by kernel_rfl) ?_
      go_wp2
      go_ret
      exact ⟨rfl, ⟨TL, HLl.out, HM8.out⟩, HF8.out⟩
end Go.Proofs.Ythblnnboeikgcaa.B
