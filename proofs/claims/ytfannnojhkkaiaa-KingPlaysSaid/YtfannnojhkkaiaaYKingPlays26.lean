import Derived.Test.YtfannnojhkkaiaaYKingPlays24
import Derived.Test.YtfannnojhkkaiaaYKingPlays12
import Derived.Test.YtfannnojhkkaiaaYKingPlays23
import Derived.Test.YtfannnojhkkaiaaYKingPlays25
namespace Go.Proofs.Ytfannnojhkkaiaa.X
open Go.RowKit Go.Proofs.YtfannnojhkkaiaaW.PrintWords Go.Proofs.YtfannnojhkkaiaaW.PrintLast Go.Proofs.YtfannnojhkkaiaaW.PrintMore
attribute [local go_sem] max2_int min2_int max_two min_two max_three min_three max_four min_four   -- for this text's walks alone
set_option linter.unusedVariables false
set_option linter.unusedSimpArgs false
def king_play_exchange.f (k : Nat) (c : S24) (F L : List Int) (x : Int) (B : List S52) : List Nat → Option (List S52)
  | [] => some []
  | j :: js => (king_Step.f k c.f0 c.f1 c.f2 c.f3 c.f4 c.f5 c.f6 c.f7 c.f8 c.f9 c.f10 x (rd_T52 B (j : Int)).f0 (rd_T52 B (j : Int)).f1 (rd (king_play_votes.votes c.f0 F L B x (j : Int)) (x / 3)) (king_play_votes.votes c.f0 F L B x (j : Int))).bind fun r => (king_play_exchange.f k c F L x B js).bind fun l => some (⟨r.1, r.2⟩ :: l)
theorem king_play_exchange.mono (c : S24) (F L : List Int) (x : Int) (B : List S52) (k : Nat) : ∀ js, LeO (king_play_exchange.f k c F L x B js) (king_play_exchange.f (k + 1) c F L x B js)
  | [] => LeO.refl _
  | j :: js => by
    unfold king_play_exchange.f
    exact LeO.bind (king_Step.mono _ _ _ _ _ _ _ _ _ _ _ _ _ _ _ _ _) (fun _ => LeO.bind (king_play_exchange.mono c F L x B k js) (fun _ => LeO.refl _))
theorem king_play_exchange.spec {k : Nat} {c : S24} {F L : List Int} {x : Int} {B : List S52} : ∀ {js : List Nat} {B' : List S52}, king_play_exchange.f k c F L x B js = some B' → B'.length = js.length ∧ ∀ i (h : i < js.length), king_Step.f k c.f0 c.f1 c.f2 c.f3 c.f4 c.f5 c.f6 c.f7 c.f8 c.f9 c.f10 x (rd_T52 B (js[i] : Int)).f0 (rd_T52 B (js[i] : Int)).f1 (rd (king_play_votes.votes c.f0 F L B x (js[i] : Int)) (x / 3)) (king_play_votes.votes c.f0 F L B x (js[i] : Int)) = some ((B'.getD i z52).f0, (B'.getD i z52).f1)
  | [], B', h => by
    unfold king_play_exchange.f at h
    obtain rfl := Option.some.inj h
    exact ⟨rfl, fun i h => absurd h (by simp)⟩
  | j :: js, B', h => by
    unfold king_play_exchange.f at h
    obtain ⟨r, hr, h⟩ := Option.bind_eq_some_iff.mp h
    obtain ⟨l, hl, h⟩ := Option.bind_eq_some_iff.mp h
    obtain rfl := Option.some.inj h
    obtain ⟨h1, h2⟩ := king_play_exchange.spec hl
    refine ⟨by simp [h1], fun i hi => ?_⟩
    cases i with
    | zero => exact hr
    | succ i => exact h2 i (by simpa using hi)
set_option maxHeartbeats 4000000 in
set_option maxRecDepth 100000 in
theorem king_play_exchange.calls (k g bl bc : Nat) (c : S24) (F L : List Int) (B B' : List S52) (AT AB AF AL : Option Addr) (ct cb cf cl : Nat) (x : Int) (w0 w : World) (M : king_play_votes.Mem w0 w g bl bc c F L B AT AB AF AL ct cb cf cl)
    (hn : 1 ≤ c.f0 ∧ c.f0 ≤ 13) (hB : B.length = c.f0.toNat) (hF : F.length ≤ 20) (hk : 20 < k) (hx : 0 ≤ x ∧ x ≤ 60) (hx3 : x / 3 < c.f0) (h : king_play_exchange.f k c F L x B (List.range c.f0.toNat) = some B') :
    Calls Try.prog 86 #[.pointer (some ⟨g, 0, none⟩), .int .i64 x] w fun e w' => ∃ v AB' cb', e = .returned v ∧ king_play_votes.Mem w0 w' g bl bc c F L B' AT AB' AF AL ct cb' cf cl ∧ B'.length = c.f0.toNat := by
  have hu24 := Try.underlying24
  have hu52 := Try.underlying52
  obtain ⟨hl, hs⟩ := king_play_exchange.spec h
  rw [List.length_range] at hl
  have HM := Aside0.mk M
  have HBl := Aside0.mk hB
  have HBl' := Aside0.mk hl
  obtain ⟨m, hm⟩ : ∃ m, c.f0.toNat = m := ⟨_, rfl⟩
  have hBm : B.length = m := by omega
  have hS : ∀ j, j < m → king_Step.f k c.f0 c.f1 c.f2 c.f3 c.f4 c.f5 c.f6 c.f7 c.f8 c.f9 c.f10 x (rd_T52 B (j : Int)).f0 (rd_T52 B (j : Int)).f1 (rd (king_play_votes.votes c.f0 F L B x (j : Int)) (x / 3)) (king_play_votes.votes c.f0 F L B x (j : Int)) = some ((B'.getD j z52).f0, (B'.getD j z52).f1) := fun j hj => by
    have := hs j (by rw [List.length_range]; omega)
    rwa [List.getElem_range] at this
  have HS := Aside0.mk hS
  have HMm := Aside0.mk hm
  have HBm := Aside0.mk hBm
  have HN := Aside0.mk hn
  have HX := Aside0.mk hx
  have hx4 : 0 ≤ x / 3 := by omega
  have HX3 := Aside0.mk hx3
  have m1 : 1 ≤ m := by omega
  have m2 : m ≤ 13 := by omega
  have hm3 : x / 3 < (m : Int) := by omega
  have x0 : 0 ≤ x := hx.1
  have x1 : x ≤ 60 := hx.2
  have q11 := HM.out.c11
  clear M hB hm hx hn hs hS hl h hBm hx3
  rw [HBm.out] at q11
  have n1 : (m : Int).toNat * 16 ≤ 281474976710656 := by omega
  go_enter Try.func86, Try.ntmps86
  go_wp2_with ((with_reducible refine gate_dst (N := 13) rfl ?_); refine Kd.R_make k52 _ 52 rfl (N := 13) rfl 81 _ _ rfl (m : Int) rfl rfl Try.underlying81 (.agg #[(.int .i64 0), (.bool false)]) 16 info52 rfl (by decide) (by omega) z52 (ok := fun _ => True) (okp := fun _ => True) (k52_mkM _ _ _ z52) (fun _ hk => hk) trivial (Int.natCast_nonneg m) n1 (Below.refl _ _) (Nat.le_refl _) ?_; intro v4 w1 ho hb hg_ hnew_; clear hg_ hnew_; rw [Int.toNat_natCast] at ho; obtain ⟨g4, cap, ev, gb, gl, cells4, gh⟩ := Kd.R_form ho (by rw [List.length_replicate]; omega); rw [List.length_replicate] at ev; subst ev; have HO := Aside0.mk ho; have HB1 := Aside0.mk hb; have GB := Aside0.mk gb; have HM1 := Aside0.mk (HM.out.below hb); have q := HM1.out.c11; rw [HBm.out] at q; clear ho hb gb gl gh)
  clear q11 q
  go_loopw [19] (fun v19 wr => ∃ j : Nat, v19 = .int .i64 j ∧ j ≤ m ∧ Aside0 (Kd.R k52 52 wr w.heap.size (fun _ => True) (.slice (some ⟨g4, 0, none⟩) m cap) (KW.part z52 B' m j)) ∧ Aside0 (Below w.heap.size w wr)) (fun i _ => m - (intOf i).toNat)
  case atStart => exact ⟨0, rfl, Nat.zero_le _, ⟨by rw [KW.part_zero]; exact HO.out⟩, HB1⟩
  case round =>
    clear HO HB1 HM1
    obtain ⟨j, rfl, hj, HO, HJ⟩ := hrel
    have HM2 := Aside0.mk (HM.out.below HJ.out)
    by_cases hlt : j < m
    · have hltb : decide ((j : Int) < (m : Int)) = true := decide_eq_true (by omega)
      have HSj := Aside0.mk (HS.out j hlt)
      obtain ⟨ad, ea, hb0, hb1⟩ := at_T52 HM2.out.rb (j : Int) (by omega) (by have := HBm.out; omega)
      subst ea
      rw [Int.toNat_natCast] at hb0 hb1
      have hjB : (j : Int) < (B.length : Int) := by have := HBm.out; omega
      generalize hyd : B'.getD j z52 = y at HSj
      have HYd := Aside0.mk hyd
      clear hyd
      have hq3 : wrap64 (x.tdiv 3) = x / 3 := by rw [Int.tdiv_eq_ediv_of_nonneg x0]; unfold wrap64; omega
      generalize hVd : king_play_votes.votes c.f0 F L B x (j : Int) = V at HSj
      have HVd := Aside0.mk hVd
      have hVl : V.length = m := by rw [← hVd, king_play_votes.votes_len, HMm.out]
      have HVl := Aside0.mk hVl
      have hm4 : x / 3 < (V.length : Int) := by rw [hVl]; exact hm3
      have hjm : (j : Int) < (m : Int) := by omega
      have hj0 : 0 ≤ (j : Int) := by omega
      have hj13 : (j : Int) ≤ 13 := by omega
      clear hVd hVl
      go_wp2_with (first | ((with_reducible refine gate_dst (N := 6) rfl ?_); refine box_event ?hg (N := 6) ?hd (cs := #[.int .i64 0, .bool false]) (t := 52) ?hr ?_; (case hd => rfl); (case hg => rfl); (case hr => first | (go_simp; done) | (go_simp; rfl)); intro gb hg wx hbox hb; have BK := Aside0.mk hbox; have GX := Aside0.mk (show wr.heap.size ≤ gb by rw [hg]; exact Nat.le_refl _); have HBx := Aside0.mk hb; clear hb hbox hg; have hz0 : wx.cell? ⟨gb, 0, none⟩ = some (.int .i64 0) := (blk_cell BK.out 0).trans rfl; have hz1 : wx.cell? ⟨gb, 1, none⟩ = some (.bool false) := (blk_cell BK.out 1).trans rfl; have hf0 := blk_frozen BK.out 0; have hf1 := blk_frozen BK.out 1) | (go_at_call 93; have HBy := Aside0.mk ((HBx.out.setCell (p := ⟨gb, 0, none⟩) GX.out (.int .i64 (rd_T52 B (j : Int)).f0)).setCell (p := ⟨gb, 1, none⟩) GX.out (.bool (rd_T52 B (j : Int)).f1)); have BK2 := Aside0.mk (blk_put (blk_put BK.out 0 (.int .i64 (rd_T52 B (j : Int)).f0) rfl) 1 (.bool (rd_T52 B (j : Int)).f1) rfl); (with_reducible refine (king_play_votes.calls k g bl bc c F L B AT _ AF AL ct cb cf cl x (j : Int) w0 _ (HM2.out.below HBy.out) HN.out HBl.out (by omega) (by omega) HX.out ⟨hj0, hj13⟩).mono ?_); rintro e' w3 ⟨v7, rfl, ho, hb⟩; rw [HVd.out] at ho; obtain ⟨gv, cv, ev, gvb, gvl, cellsv, ghv⟩ := Kd.R_form ho (by rw [HVl.out]; omega); subst ev; have HVC := Aside0.mk (Kd.R_reads' ho).2.2; have HVL := Aside0.mk (Kd.R_reads' ho).2.1; have HB3 := Aside0.mk (below_step HBy.out hb); have HM3 := Aside0.mk (HM2.out.below HB3.out); have HO3 := Aside0.mk (Kd.R_below HO.out HB3.out); have HJ3 := Aside0.mk (below_step HJ.out HB3.out); have BK3 := Aside0.mk (blk_below BK2.out hb); have hy0 : w3.cell? ⟨gb, 0, none⟩ = some (.int .i64 (rd_T52 B (j : Int)).f0) := (blk_cell BK3.out 0).trans rfl; have hy1 : w3.cell? ⟨gb, 1, none⟩ = some (.bool (rd_T52 B (j : Int)).f1) := (blk_cell BK3.out 1).trans rfl; have hv0 : w3.cell? ⟨gv, (x / 3).toNat, none⟩ = some (.int .i64 (rd V (x / 3))) := (Kd.R_cell (enc := Value.int .i64) (h1 := fun _ => rfl) (0 : Int) ho (x / 3) hx4 hm4).1; clear ho hb gvb gvl ghv hz0 hz1 hf0 hf1 hb0 hb1))
      refine start_ (n := 17) (S := fun w' => w'.cell? ⟨g, 0, none⟩ = some (.int .i64 c.f0) ∧ w'.cell? ⟨g, 1, none⟩ = some (.int .i64 c.f1) ∧ w'.cell? ⟨g, 2, none⟩ = some (.int .i64 c.f2) ∧ w'.cell? ⟨g, 3, none⟩ = some (.int .i64 c.f3) ∧ w'.cell? ⟨g, 4, none⟩ = some (.int .i64 c.f4) ∧ w'.cell? ⟨g, 5, none⟩ = some (.int .i64 c.f5) ∧ w'.cell? ⟨g, 6, none⟩ = some (.int .i64 c.f6) ∧ w'.cell? ⟨g, 7, none⟩ = some (.int .i64 c.f7) ∧ w'.cell? ⟨g, 8, none⟩ = some (.int .i64 c.f8) ∧ w'.cell? ⟨g, 9, none⟩ = some (.int .i64 c.f9) ∧ w'.cell? ⟨g, 10, none⟩ = some (.slice AT c.f10.length ct) ∧ w'.cell? ⟨gb, 0, none⟩ = some (.int .i64 (rd_T52 B (j : Int)).f0) ∧ w'.cell? ⟨gb, 1, none⟩ = some (.bool (rd_T52 B (j : Int)).f1) ∧ w'.cell? ⟨gv, (x / 3).toNat, none⟩ = some (.int .i64 (rd V (x / 3)))) (ds := [14, 16]) #[false, false, false, false, false, false, false, false, false, false, false, false, false, false, false, false, false] (by kernel_rfl) rfl rfl ⟨HM3.out.c0, HM3.out.c1, HM3.out.c2, HM3.out.c3, HM3.out.c4, HM3.out.c5, HM3.out.c6, HM3.out.c7, HM3.out.c8, HM3.out.c9, HM3.out.c10, hy0, hy1, hv0⟩ (fun hHeld => ?_)
      refine pure_ (i := 0) (N := some 28) (v := ?_) (a' := ?_) #[true, false, false, false, false, false, false, false, false, false, false, false, false, false, false, false, false] rfl rfl (by kernel_rfl) (fun _ _ _ h => h) (Or.inl ⟨by rfl, ?_⟩) ?_ ?_
      rotate_left
      · intro w'
        go_simp
        with_reducible rfl
      rotate_left
      · simp only [Act.put, List.setIfInBounds_toArray, List.set_cons_zero, List.set_cons_succ, i64_w, i32_w]
        rfl
      refine pure_ (i := 1) (N := some 29) (v := ?_) (a' := ?_) #[true, true, false, false, false, false, false, false, false, false, false, false, false, false, false, false, false] rfl rfl (by kernel_rfl) (fun _ _ _ h => h) (Or.inl ⟨by rfl, ?_⟩) ?_ ?_
      rotate_left
      · intro w'
        go_simp
        with_reducible rfl
      rotate_left
      · simp only [Act.put, List.setIfInBounds_toArray, List.set_cons_zero, List.set_cons_succ, i64_w, i32_w]
        rfl
      refine pure_ (i := 2) (N := some 30) (v := ?_) (a' := ?_) #[true, true, true, false, false, false, false, false, false, false, false, false, false, false, false, false, false] rfl rfl (by kernel_rfl) (fun _ _ _ h => h) (Or.inl ⟨by rfl, ?_⟩) ?_ ?_
      rotate_left
      · intro w'
        go_simp
        with_reducible rfl
      rotate_left
      · simp only [Act.put, List.setIfInBounds_toArray, List.set_cons_zero, List.set_cons_succ, i64_w, i32_w]
        rfl
      refine pure_ (i := 3) (N := some 31) (v := ?_) (a' := ?_) #[true, true, true, true, false, false, false, false, false, false, false, false, false, false, false, false, false] rfl rfl (by kernel_rfl) (fun _ _ _ h => h) (Or.inl ⟨by rfl, ?_⟩) ?_ ?_
      rotate_left
      · intro w'
        go_simp
        with_reducible rfl
      rotate_left
      · simp only [Act.put, List.setIfInBounds_toArray, List.set_cons_zero, List.set_cons_succ, i64_w, i32_w]
        rfl
      refine pure_ (i := 4) (N := some 32) (v := ?_) (a' := ?_) #[true, true, true, true, true, false, false, false, false, false, false, false, false, false, false, false, false] rfl rfl (by kernel_rfl) (fun _ _ _ h => h) (Or.inl ⟨by rfl, ?_⟩) ?_ ?_
      rotate_left
      · intro w'
        go_simp
        with_reducible rfl
      rotate_left
      · simp only [Act.put, List.setIfInBounds_toArray, List.set_cons_zero, List.set_cons_succ, i64_w, i32_w]
        rfl
      refine pure_ (i := 6) (N := some 34) (v := ?_) (a' := ?_) #[true, true, true, true, true, false, true, false, false, false, false, false, false, false, false, false, false] rfl rfl (by kernel_rfl) (fun _ _ _ h => h) (Or.inl ⟨by rfl, ?_⟩) ?_ ?_
      rotate_left
      · intro w'
        go_simp
        with_reducible rfl
      rotate_left
      · simp only [Act.put, List.setIfInBounds_toArray, List.set_cons_zero, List.set_cons_succ, i64_w, i32_w]
        rfl
      refine pure_ (i := 8) (N := some 36) (v := ?_) (a' := ?_) #[true, true, true, true, true, false, true, false, true, false, false, false, false, false, false, false, false] rfl rfl (by kernel_rfl) (fun _ _ _ h => h) (Or.inl ⟨by rfl, ?_⟩) ?_ ?_
      rotate_left
      · intro w'
        go_simp
        with_reducible rfl
      rotate_left
      · simp only [Act.put, List.setIfInBounds_toArray, List.set_cons_zero, List.set_cons_succ, i64_w, i32_w]
        rfl
      refine pure_ (i := 9) (N := some 37) (v := ?_) (a' := ?_) #[true, true, true, true, true, false, true, false, true, true, false, false, false, false, false, false, false] rfl rfl (by kernel_rfl) (fun _ _ _ h => h) (Or.inl ⟨by rfl, ?_⟩) ?_ ?_
      rotate_left
      · intro w'
        go_simp
        with_reducible rfl
      rotate_left
      · simp only [Act.put, List.setIfInBounds_toArray, List.set_cons_zero, List.set_cons_succ, i64_w, i32_w]
        rfl
      refine pure_ (i := 10) (N := some 38) (v := ?_) (a' := ?_) #[true, true, true, true, true, false, true, false, true, true, true, false, false, false, false, false, false] rfl rfl (by kernel_rfl) (fun _ _ _ h => h) (Or.inl ⟨by rfl, ?_⟩) ?_ ?_
      rotate_left
      · intro w'
        go_simp
        with_reducible rfl
      rotate_left
      · simp only [Act.put, List.setIfInBounds_toArray, List.set_cons_zero, List.set_cons_succ, i64_w, i32_w]
        rfl
      refine pure_ (i := 11) (N := some 39) (v := ?_) (a' := ?_) #[true, true, true, true, true, false, true, false, true, true, true, true, false, false, false, false, false] rfl rfl (by kernel_rfl) (fun _ _ _ h => h) (Or.inl ⟨by rfl, ?_⟩) ?_ ?_
      rotate_left
      · intro w'
        go_simp
        with_reducible rfl
      rotate_left
      · simp only [Act.put, List.setIfInBounds_toArray, List.set_cons_zero, List.set_cons_succ, i64_w, i32_w]
        rfl
      refine pure_ (i := 13) (N := some 41) (v := ?_) (a' := ?_) #[true, true, true, true, true, false, true, false, true, true, true, true, false, true, false, false, false] rfl rfl (by kernel_rfl) (fun _ _ _ h => h) (Or.inl ⟨by rfl, ?_⟩) ?_ ?_
      rotate_left
      · intro w'
        go_simp
        with_reducible rfl
      rotate_left
      · simp only [Act.put, List.setIfInBounds_toArray, List.set_cons_zero, List.set_cons_succ, i64_w, i32_w]
        rfl
      refine take_ (i := 5) (N := some 33) (v := ?_) (a' := ?_) #[true, true, true, true, true, true, true, false, true, true, true, true, false, true, false, false, false] rfl rfl (by kernel_rfl) (fun _ _ _ h => h) (Or.inl ⟨by rfl, ?_⟩) hHeld ?_ ?_
      rotate_left
      · rintro w' ⟨s0, s1, s2, s3, s4, s5, s6, s7, s8, s9, s10, s11, s12, s13⟩
        go_simp
        with_reducible rfl
      rotate_left
      · simp only [Act.put, List.setIfInBounds_toArray, List.set_cons_zero, List.set_cons_succ, i64_w, i32_w]
        rfl
      refine take_ (i := 7) (N := some 35) (v := ?_) (a' := ?_) #[true, true, true, true, true, true, true, true, true, true, true, true, false, true, false, false, false] rfl rfl (by kernel_rfl) (fun _ _ _ h => h) (Or.inl ⟨by rfl, ?_⟩) hHeld ?_ ?_
      rotate_left
      · rintro w' ⟨s0, s1, s2, s3, s4, s5, s6, s7, s8, s9, s10, s11, s12, s13⟩
        go_simp
        with_reducible rfl
      rotate_left
      · simp only [Act.put, List.setIfInBounds_toArray, List.set_cons_zero, List.set_cons_succ, i64_w, i32_w]
        rfl
      refine take_ (i := 12) (N := some 40) (v := ?_) (a' := ?_) #[true, true, true, true, true, true, true, true, true, true, true, true, true, true, false, false, false] rfl rfl (by kernel_rfl) (fun _ _ _ h => h) (Or.inl ⟨by rfl, ?_⟩) hHeld ?_ ?_
      rotate_left
      · rintro w' ⟨s0, s1, s2, s3, s4, s5, s6, s7, s8, s9, s10, s11, s12, s13⟩
        go_simp
        with_reducible rfl
      rotate_left
      · simp only [Act.put, List.setIfInBounds_toArray, List.set_cons_zero, List.set_cons_succ, i64_w, i32_w]
        rfl
      refine last_ (i := 14) (N := some 42) #[true, true, true, true, true, true, true, true, true, true, true, true, true, true, true, false, false] rfl rfl (by kernel_rfl) (by decide) (fun K hK => ?_)
      refine goes_ Try.func48 (by kernel_rfl) rfl #[.agg #[.int .i64 c.f0, .int .i64 c.f1, .int .i64 c.f2, .int .i64 c.f3, .int .i64 c.f4, .int .i64 c.f5, .int .i64 c.f6, .int .i64 c.f7, .int .i64 c.f8, .int .i64 c.f9, .slice AT c.f10.length ct], .int .i64 x, .agg #[.int .i64 (rd_T52 B (j : Int)).f0, .bool (rd_T52 B (j : Int)).f1], .int .i64 (rd V (x / 3)), .slice (some ⟨gv, 0, none⟩) V.length cv] (by rfl) rfl rfl (by simp only [List.map_toArray, List.map_cons, List.map_nil]; rfl) ?_
      with_reducible refine (king_Step.calls k c.f0 c.f1 c.f2 c.f3 c.f4 c.f5 c.f6 c.f7 c.f8 c.f9 _ _ c.f10 x _ _ _ _ _ V _ _ _ (Kd.C_drew HM3.out.rt) HM.out.ht (Kd.C_drew HVC.out) HVL.out HSj.out).mono ?_
      rintro e' w4 ⟨rfl, hb⟩
      refine ⟨_, rfl, ?_⟩
      have HO4 := Aside0.mk (Kd.R_below (Kd.R_drew HO3.out) hb)
      have HJ4 := Aside0.mk (below_step (below_drew1 HJ3.out) hb)
      clear hb
      obtain ⟨ce, hcl, hM, hcc, hfr⟩ := Kd.R_elem HO4.out z52 (j : Int) (by omega) (by omega)
      obtain rfl := k52_openM hM
      rw [Int.toNat_natCast] at hcc hfr
      have hx0 : w4.cell? ⟨g4, j * 2, none⟩ = some _ := hcc 0 _ rfl
      have hx1 : w4.cell? ⟨g4, j * 2 + 1, none⟩ = some _ := hcc 1 _ rfl
      have hf0 : w4.frozen? ⟨g4, j * 2, none⟩ = false := hfr 0
      have hf1 : w4.frozen? ⟨g4, j * 2 + 1, none⟩ = false := hfr 1
      refine hK.out _ _ ?_
      clear hK K
      refine norm_ (a' := ?_) ?_ ?_
      rotate_left
      · show Act.put _ (some 42) _ = _
        simp only [Act.put, List.setIfInBounds_toArray, List.set_cons_zero, List.set_cons_succ, i64_w, i32_w]
        rfl
      refine pure_ (i := 15) (N := some 43) (v := ?_) (a' := ?_) #[true, true, true, true, true, true, true, true, true, true, true, true, true, true, true, true, false] rfl rfl (by kernel_rfl) (fun _ _ _ h => h) (Or.inl ⟨by rfl, ?_⟩) ?_ ?_
      rotate_left
      · intro w'
        go_simp
        with_reducible rfl
      rotate_left
      · simp only [Act.put, List.setIfInBounds_toArray, List.set_cons_zero, List.set_cons_succ, i64_w, i32_w]
        rfl
      refine last_ (i := 16) (N := none) #[true, true, true, true, true, true, true, true, true, true, true, true, true, true, true, true, true] rfl rfl (by kernel_rfl) (by decide) (fun K hK => ?_)
      refine skip_ (w1 := ?_) (by rfl) rfl ?_ ?_
      rotate_left
      · go_simp
        rfl
      refine hK.out _ _ ?_
      clear hK K
      refine done_ (by kernel_rfl) ?_
      have HP := Aside0.mk ((Kd.R_seg HO4.out (j : Int) (by omega) (by omega) (seg := [.int .i64 y.f0, .bool y.f1]) (j := 0) hcl (by rw [Int.toNat_natCast]; exact hcc) (show 2 ≤ 2 from by decide) (x' := (⟨y.f0, y.f1⟩ : S52)) (k52_mkM _ _ _ (⟨y.f0, y.f1⟩ : S52)) (fun _ hk => hk)).1)
      rw [Int.toNat_natCast] at HP
      have m0 := Aside0.mk (show Kd.R k52 52 ((w4.setCell ⟨g4, j * 2, none⟩ (.int .i64 y.f0)).setCell ⟨g4, j * 2 + 1, none⟩ (.bool y.f1)) w.heap.size (fun _ => True) (.slice (some ⟨g4, 0, none⟩) m cap) ((KW.part z52 B' m j).set j (⟨y.f0, y.f1⟩ : S52)) from HP.out)
      have m1_ := Aside0.mk ((HJ4.out.setCell (p := ⟨g4, j * 2, none⟩) GB.out (.int .i64 y.f0)).setCell (p := ⟨g4, j * 2 + 1, none⟩) GB.out (.bool y.f1))
      clear HP hM hcl hcc hfr hx0 hx1 hf0 hf1
      generalize ((w4.setCell ⟨g4, j * 2, none⟩ (.int .i64 y.f0)).setCell ⟨g4, j * 2 + 1, none⟩ (.bool y.f1)) = w5 at m0 m1_ ⊢
      go_wp2
      go_roundw
      case rel => exact ⟨j + 1, by go_num, hlt, ⟨by rw [← KW.part_put (z := z52) (V := B') (x := (⟨y.f0, y.f1⟩ : S52)) (by rw [HBl'.out, HMm.out]) hlt HYd.out]; exact m0.out⟩, m1_⟩
      case measure => simp [intOf]; omega
    · obtain rfl : j = m := by omega
      have hltb : decide ((j : Int) < (j : Int)) = false := decide_eq_false (by omega)
      have hB' : B'.length = j := by rw [HBl'.out, HMm.out]
      have HE := Aside0.mk (KW.part_all (z := z52) (V := B') hB')
      rw [HE.out] at HO
      have HB' := Aside0.mk hB'
      have qb := HM2.out.c11
      have qf := blk_frozen HM2.out.blk 11
      have HGG := Aside0.mk (blk_lt HM.out.blk)
      have HSet := Aside0.mk (HM2.out.set (B' := B') (AB' := some ⟨g4, 0, none⟩) (cb' := cap) (by rw [hB']; exact HO.out) HGG.out)
      rw [hB'] at HSet
      clear hB'
      go_wp2
      go_end0
      exact ⟨_, _, _, rfl, HSet.out, HBl'.out⟩
end Go.Proofs.Ytfannnojhkkaiaa.X
