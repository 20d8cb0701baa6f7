import Derived.Test.YtfannnojhkkaiaaYKingPlays24
import Derived.Test.YtfannnojhkkaiaaYKingPlays12
import Derived.Test.YtfannnojhkkaiaaYKingPlays23
namespace Go.Proofs.Ytfannnojhkkaiaa.X
open Go.RowKit Go.Proofs.YtfannnojhkkaiaaW.PrintWords Go.Proofs.YtfannnojhkkaiaaW.PrintLast Go.Proofs.YtfannnojhkkaiaaW.PrintMore
attribute [local go_sem] max2_int min2_int max_two min_two max_three min_three max_four min_four   -- for this text's walks alone
set_option linter.unusedVariables false
set_option linter.unusedSimpArgs false
def king_play_votes.lie (n : Int) (L : List Int) (x fr t_ : Int) : Int := if L.length = 0 then -1 else rd L (((x * n + fr) * n + t_) % (L.length : Int))
theorem king_play_votes.bounds {n x fr t_ : Int} (hx : 0 ≤ x ∧ x ≤ 60) (hn : 0 ≤ n ∧ n ≤ 13) (hf : 0 ≤ fr ∧ fr ≤ 13) (ht : 0 ≤ t_ ∧ t_ ≤ 13) : 0 ≤ x * n ∧ x * n ≤ 780 ∧ 0 ≤ (x * n + fr) * n ∧ (x * n + fr) * n ≤ 10309 := by
  have h : n = 0 ∨ n = 1 ∨ n = 2 ∨ n = 3 ∨ n = 4 ∨ n = 5 ∨ n = 6 ∨ n = 7 ∨ n = 8 ∨ n = 9 ∨ n = 10 ∨ n = 11 ∨ n = 12 ∨ n = 13 := by omega
  rcases h with rfl | rfl | rfl | rfl | rfl | rfl | rfl | rfl | rfl | rfl | rfl | rfl | rfl | rfl <;> omega
set_option maxHeartbeats 2000000 in
set_option maxRecDepth 100000 in
theorem king_play_votes.lie_calls (bl bc : Nat) (n : Int) (A : Option Addr) (c : Nat) (L : List Int) (x fr t_ : Int) (w : World) (hr : Kd.C (Kd.int .i64) w A L.length L) (hc : L.length ≤ c) (hb : w.cell? ⟨bl, 0, none⟩ = some (.slice A L.length c)) (hn : w.cell? ⟨bc, 0, none⟩ = some (.int .i64 n))
    (hx : 0 ≤ x ∧ x ≤ 60) (hn1 : 0 ≤ n ∧ n ≤ 13) (hf : 0 ≤ fr ∧ fr ≤ 13) (ht : 0 ≤ t_ ∧ t_ ≤ 13) :
    Calls Try.prog 84 #[.int .i64 x, .int .i64 fr, .int .i64 t_, .pointer (some ⟨bl, 0, none⟩), .pointer (some ⟨bc, 0, none⟩)] w fun e w' => e = .returned (.int .i64 (king_play_votes.lie n L x fr t_)) ∧ Below w.heap.size w w' := by
  have HB := Aside0.mk (king_play_votes.bounds hx hn1 hf ht)
  have HR := Aside0.mk hr
  have hm := Kd.C_max hr
  clear hr
  by_cases h0 : L.length = 0
  · have e : king_play_votes.lie n L x fr t_ = -1 := by unfold king_play_votes.lie; rw [if_pos h0]
    have hL : ((L.length : Int) == 0) = true := by simpa using h0
    have E := Aside0.mk e
    clear e h0
    go_enter Try.func84, Try.ntmps84
    go_wp2
    go_ret
    exact ⟨by rw [E.out]; rfl, Below.refl _ _⟩
  · have e : king_play_votes.lie n L x fr t_ = rd L (((x * n + fr) * n + t_) % (L.length : Int)) := by unfold king_play_votes.lie; rw [if_neg h0]
    have hL : ((L.length : Int) == 0) = false := by simpa using h0
    have g0 : 0 ≤ ((x * n + fr) * n + t_) % (L.length : Int) := Int.emod_nonneg _ (by omega)
    have g1 : ((x * n + fr) * n + t_) % (L.length : Int) < L.length := Int.emod_lt_of_pos _ (by omega)
    obtain ⟨ad, ea, hx0⟩ := Kd.at_int HR.out _ g0 g1
    subst ea
    have E := Aside0.mk e
    clear e
    obtain ⟨b0, b1, b2, b3⟩ := HB.out
    have hb3 := ht
    obtain ⟨t0, t1⟩ := ht
    obtain ⟨f0, f1⟩ := hf
    have s1 : IntKind.i64.wrap (x * n) = x * n := IntWalk.i64_in _ (by omega)
    have s2 : IntKind.i64.wrap (x * n + fr) = x * n + fr := IntWalk.i64_in _ (by omega)
    have s3 : IntKind.i64.wrap ((x * n + fr) * n) = (x * n + fr) * n := IntWalk.i64_in _ (by omega)
    have s4 : IntKind.i64.wrap ((x * n + fr) * n + t_) = (x * n + fr) * n + t_ := IntWalk.i64_in _ (by omega)
    have s5 : ((x * n + fr) * n + t_).tmod (L.length : Int) = ((x * n + fr) * n + t_) % (L.length : Int) := Int.tmod_eq_emod_of_nonneg (by omega)
    go_enter Try.func84, Try.ntmps84
    go_wp2
    go_quiet (fail)
    go_wp2
    go_ret
    exact ⟨by rw [E.out]; rfl, pw_below_drewN (Below.refl _ _) _⟩
theorem king_play_votes.contains_at (l : List Int) (hl : l.length ≤ 1000) (v : Int) {k : Nat} (hk : l.length < k) : slices_Contains_int_int.f k l v = some (l.contains v) := by
  have key : ∀ (q k i : Nat), i + q = l.length → q < k → slices_Index_int_int.l0 k l v (l.length : Int) (i : Int) = some (if (l.drop i).contains v then ((i : Int) + ((l.drop i).idxOf v : Nat)) else -1) := by
    intro q
    induction q with
    | zero =>
      intro k i hi hk
      obtain ⟨k, rfl⟩ : ∃ m, k = m + 1 := ⟨k - 1, by omega⟩
      simp only [slices_Index_int_int.l0]
      rw [if_neg (by omega), List.drop_of_length_le (by omega)]
      rfl
    | succ q ih =>
      intro k i hi hk
      obtain ⟨k, rfl⟩ : ∃ m, k = m + 1 := ⟨k - 1, by omega⟩
      have hlt : i < l.length := by omega
      have hrd : rd l (i : Int) = l[i] := by simp [rd, List.getD_eq_getElem?_getD, hlt]
      simp only [slices_Index_int_int.l0]
      rw [if_pos (by omega), if_pos (by omega), if_pos (by omega), hrd, List.drop_eq_getElem_cons hlt]
      by_cases h : v = l[i]
      · rw [if_pos h]
        subst h
        rw [List.contains_cons, beq_self_eq_true, Bool.true_or, if_pos rfl, List.idxOf_cons_self]
        simp
      · have h2 : wrap64 ((i : Int) + 1) = ((i + 1 : Nat) : Int) := by unfold wrap64; omega
        have h3 : (l[i] == v) = false := by simpa using fun e => h (Eq.symm e)
        have h4 : (v == l[i]) = false := by simpa using h
        rw [if_neg h, h2, ih k (i + 1) (by omega) (by omega), List.contains_cons, h4, Bool.false_or, List.idxOf_cons, h3]
        by_cases h5 : (l.drop (i + 1)).contains v = true
        · rw [if_pos h5, if_pos h5]
          simp
          omega
        · rw [if_neg h5, if_neg h5]
  unfold slices_Contains_int_int.f slices_Index_int_int.f
  have := key l.length k 0 (by omega) hk
  rw [show ((0 : Nat) : Int) = 0 from rfl] at this
  rw [this, List.drop_zero]
  simp only [Option.bind_some]
  by_cases h : l.contains v = true
  · rw [if_pos h, h]
    simp
  · have h' : l.contains v = false := by simpa using h
    rw [if_neg h, h']
    rfl
def king_play_votes.votes (n : Int) (F L : List Int) (B : List S52) (x t_ : Int) : List Int := (List.range n.toNat).map (fun (k : Nat) => if F.contains (k : Int) then king_play_votes.lie n L x (k : Int) t_ else (rd_T52 B (k : Int)).f0)
theorem king_play_votes.votes_len (n : Int) (F L : List Int) (B : List S52) (x t_ : Int) : (king_play_votes.votes n F L B x t_).length = n.toNat := by simp [king_play_votes.votes]
theorem king_play_votes.votes_at (n : Int) (F L : List Int) (B : List S52) (x t_ : Int) {j : Nat} (hj : j < n.toNat) : (king_play_votes.votes n F L B x t_).getD j 0 = if F.contains (j : Int) then king_play_votes.lie n L x (j : Int) t_ else (rd_T52 B (j : Int)).f0 := KW.getD_range _ 0 hj
abbrev king_play_votes.cells (c : S24) (AT : Option Addr) (ct : Nat) (AB : Option Addr) (B : List S52) (cb : Nat) (AF : Option Addr) (F : List Int) (cf bl bc : Nat) : Array Value :=
  #[.int .i64 c.f0, .int .i64 c.f1, .int .i64 c.f2, .int .i64 c.f3, .int .i64 c.f4, .int .i64 c.f5, .int .i64 c.f6, .int .i64 c.f7, .int .i64 c.f8, .int .i64 c.f9, .slice AT c.f10.length ct, .slice AB B.length cb, .slice AF F.length cf, .func (.func 84) #[] #[.pointer (some ⟨bl, 0, none⟩), .pointer (some ⟨bc, 0, none⟩)]]
structure king_play_votes.Mem (w0 W : World) (g bl bc : Nat) (c : S24) (F L : List Int) (B : List S52) (AT AB AF AL : Option Addr) (ct cb cf cl : Nat) : Prop where
  blk : W.heap[g]? = some (.cells (king_play_votes.cells c AT ct AB B cb AF F cf bl bc) 84 (0, 0))
  lies : W.cell? ⟨bl, 0, none⟩ = some (.slice AL L.length cl)
  conf : W.cell? ⟨bc, 0, none⟩ = some (.int .i64 c.f0)
  bel : Below w0.heap.size w0 W
  new : w0.heap.size ≤ g
  nl : bl ≠ g
  nc : bc ≠ g
  rt0 : Kd.C (Kd.int .i64) w0 AT c.f10.length c.f10
  rf0 : Kd.C (Kd.int .i64) w0 AF F.length F
  rl0 : Kd.C (Kd.int .i64) w0 AL L.length L
  rb : Kd.C k52 W AB B.length B
  ht : c.f10.length ≤ ct
  hb : B.length ≤ cb
  hf : F.length ≤ cf
  hl : L.length ≤ cl
section
variable {w0 W : World} {g bl bc : Nat} {c : S24} {F L : List Int} {B : List S52} {AT AB AF AL : Option Addr} {ct cb cf cl : Nat}
theorem king_play_votes.Mem.rt (M : king_play_votes.Mem w0 W g bl bc c F L B AT AB AF AL ct cb cf cl) : Kd.C (Kd.int .i64) W AT c.f10.length c.f10 := Kd.C_below M.rt0 M.bel
theorem king_play_votes.Mem.rf (M : king_play_votes.Mem w0 W g bl bc c F L B AT AB AF AL ct cb cf cl) : Kd.C (Kd.int .i64) W AF F.length F := Kd.C_below M.rf0 M.bel
theorem king_play_votes.Mem.rl (M : king_play_votes.Mem w0 W g bl bc c F L B AT AB AF AL ct cb cf cl) : Kd.C (Kd.int .i64) W AL L.length L := Kd.C_below M.rl0 M.bel
theorem king_play_votes.Mem.below {W1 : World} (M : king_play_votes.Mem w0 W g bl bc c F L B AT AB AF AL ct cb cf cl) (h : Below W.heap.size W W1) : king_play_votes.Mem w0 W1 g bl bc c F L B AT AB AF AL ct cb cf cl :=
  ⟨blk_below M.blk h, pw_cell_below h M.lies, pw_cell_below h M.conf, below_step M.bel h, M.new, M.nl, M.nc, M.rt0, M.rf0, M.rl0, Kd.C_below M.rb h, M.ht, M.hb, M.hf, M.hl⟩
theorem king_play_votes.Mem.drewN (M : king_play_votes.Mem w0 W g bl bc c F L B AT AB AF AL ct cb cf cl) (n : Nat) : king_play_votes.Mem w0 (W.drewN n) g bl bc c F L B AT AB AF AL ct cb cf cl := M.below (KW.drewN_below n)
theorem king_play_votes.Mem.set {B' : List S52} {AB' : Option Addr} {cb' base : Nat} {ok : Nat → Prop} (M : king_play_votes.Mem w0 W g bl bc c F L B AT AB AF AL ct cb cf cl) (hR : Kd.R k52 52 W base ok (.slice AB' B'.length cb') B') (hg : g < base) : king_play_votes.Mem w0 (W.setCell ⟨g, 11, none⟩ (.slice AB' B'.length cb')) g bl bc c F L B' AT AB' AF AL ct cb' cf cl :=
  ⟨blk_put M.blk 11 _ rfl, (World.cell?_setCell_other W _ _ _ (fun e => M.nl (by injection e with h1; first | exact h1 | exact h1.symm))).trans M.lies, (World.cell?_setCell_other W _ _ _ (fun e => M.nc (by injection e with h1; first | exact h1 | exact h1.symm))).trans M.conf, M.bel.setCell (p := ⟨g, 11, none⟩) M.new _, M.new, M.nl, M.nc, M.rt0, M.rf0, M.rl0,
    (Kd.R_reads' (Kd.R_far (p := ⟨g, 11, none⟩) (Kd.R_bound hR) (fun k hk => by have := hk.2.1; show k ≠ g; omega) _)).2.2, M.ht, (Kd.R_reads' hR).2.1, M.hf, M.hl⟩
theorem king_play_votes.Mem.c0 (M : king_play_votes.Mem w0 W g bl bc c F L B AT AB AF AL ct cb cf cl) : W.cell? ⟨g, 0, none⟩ = some (.int .i64 c.f0) := (blk_cell M.blk 0).trans rfl
theorem king_play_votes.Mem.c1 (M : king_play_votes.Mem w0 W g bl bc c F L B AT AB AF AL ct cb cf cl) : W.cell? ⟨g, 1, none⟩ = some (.int .i64 c.f1) := (blk_cell M.blk 1).trans rfl
theorem king_play_votes.Mem.c2 (M : king_play_votes.Mem w0 W g bl bc c F L B AT AB AF AL ct cb cf cl) : W.cell? ⟨g, 2, none⟩ = some (.int .i64 c.f2) := (blk_cell M.blk 2).trans rfl
theorem king_play_votes.Mem.c3 (M : king_play_votes.Mem w0 W g bl bc c F L B AT AB AF AL ct cb cf cl) : W.cell? ⟨g, 3, none⟩ = some (.int .i64 c.f3) := (blk_cell M.blk 3).trans rfl
theorem king_play_votes.Mem.c4 (M : king_play_votes.Mem w0 W g bl bc c F L B AT AB AF AL ct cb cf cl) : W.cell? ⟨g, 4, none⟩ = some (.int .i64 c.f4) := (blk_cell M.blk 4).trans rfl
theorem king_play_votes.Mem.c5 (M : king_play_votes.Mem w0 W g bl bc c F L B AT AB AF AL ct cb cf cl) : W.cell? ⟨g, 5, none⟩ = some (.int .i64 c.f5) := (blk_cell M.blk 5).trans rfl
theorem king_play_votes.Mem.c6 (M : king_play_votes.Mem w0 W g bl bc c F L B AT AB AF AL ct cb cf cl) : W.cell? ⟨g, 6, none⟩ = some (.int .i64 c.f6) := (blk_cell M.blk 6).trans rfl
theorem king_play_votes.Mem.c7 (M : king_play_votes.Mem w0 W g bl bc c F L B AT AB AF AL ct cb cf cl) : W.cell? ⟨g, 7, none⟩ = some (.int .i64 c.f7) := (blk_cell M.blk 7).trans rfl
theorem king_play_votes.Mem.c8 (M : king_play_votes.Mem w0 W g bl bc c F L B AT AB AF AL ct cb cf cl) : W.cell? ⟨g, 8, none⟩ = some (.int .i64 c.f8) := (blk_cell M.blk 8).trans rfl
theorem king_play_votes.Mem.c9 (M : king_play_votes.Mem w0 W g bl bc c F L B AT AB AF AL ct cb cf cl) : W.cell? ⟨g, 9, none⟩ = some (.int .i64 c.f9) := (blk_cell M.blk 9).trans rfl
theorem king_play_votes.Mem.c10 (M : king_play_votes.Mem w0 W g bl bc c F L B AT AB AF AL ct cb cf cl) : W.cell? ⟨g, 10, none⟩ = some (.slice AT c.f10.length ct) := (blk_cell M.blk 10).trans rfl
theorem king_play_votes.Mem.c11 (M : king_play_votes.Mem w0 W g bl bc c F L B AT AB AF AL ct cb cf cl) : W.cell? ⟨g, 11, none⟩ = some (.slice AB B.length cb) := (blk_cell M.blk 11).trans rfl
theorem king_play_votes.Mem.c12 (M : king_play_votes.Mem w0 W g bl bc c F L B AT AB AF AL ct cb cf cl) : W.cell? ⟨g, 12, none⟩ = some (.slice AF F.length cf) := (blk_cell M.blk 12).trans rfl
theorem king_play_votes.Mem.c13 (M : king_play_votes.Mem w0 W g bl bc c F L B AT AB AF AL ct cb cf cl) : W.cell? ⟨g, 13, none⟩ = some (.func (.func 84) #[] #[.pointer (some ⟨bl, 0, none⟩), .pointer (some ⟨bc, 0, none⟩)]) := (blk_cell M.blk 13).trans rfl
end
set_option maxHeartbeats 4000000 in
set_option maxRecDepth 100000 in
theorem king_play_votes.calls (k g bl bc : Nat) (c : S24) (F L : List Int) (B : List S52) (AT AB AF AL : Option Addr) (ct cb cf cl : Nat) (x t_ : Int) (w0 w : World) (M : king_play_votes.Mem w0 w g bl bc c F L B AT AB AF AL ct cb cf cl)
    (hn : 1 ≤ c.f0 ∧ c.f0 ≤ 13) (hB : B.length = c.f0.toNat) (hF : F.length ≤ 20) (hk : 20 < k) (hx : 0 ≤ x ∧ x ≤ 60) (ht : 0 ≤ t_ ∧ t_ ≤ 13) :
    Calls Try.prog 93 #[.pointer (some ⟨g, 0, none⟩), .int .i64 x, .int .i64 t_] w fun e w' => ∃ v, e = .returned v ∧ Kd.R (Kd.int .i64) 3 w' w.heap.size (fun _ => True) v (king_play_votes.votes c.f0 F L B x t_) ∧ Below w.heap.size w w' := by
  have HM := Aside0.mk M
  have HBl := Aside0.mk hB
  obtain ⟨m, hm⟩ : ∃ m, c.f0.toNat = m := ⟨_, rfl⟩
  have HMm := Aside0.mk hm
  have hnm : c.f0 = (m : Int) := by omega
  have HV := Aside0.mk (king_play_votes.votes_len c.f0 F L B x t_)
  have HVa := Aside0.mk (fun (j : Nat) (hj : j < c.f0.toNat) => king_play_votes.votes_at c.f0 F L B x t_ hj)
  obtain ⟨V, hV⟩ : ∃ V, king_play_votes.votes c.f0 F L B x t_ = V := ⟨_, rfl⟩
  rw [hV] at HV HVa ⊢
  have HN := Aside0.mk hnm
  have HX := Aside0.mk hx
  have HT := Aside0.mk ht
  have m1 : 1 ≤ m := by omega
  have m2 : m ≤ 13 := by omega
  have q0 := HM.out.c0
  have n0 : 0 ≤ c.f0 := by omega
  have n2 : c.f0 ≤ 13 := by omega
  have n1 : c.f0.toNat * 8 ≤ 281474976710656 := by omega
  clear M hB hm hV hnm hx ht hn
  go_enter Try.func93, Try.ntmps93
  go_wp2_with ((with_reducible refine gate_dst (N := 14) rfl ?_); refine Kd.R_make (Kd.int .i64) _ 3 rfl (N := 14) rfl 22 _ _ rfl c.f0 rfl rfl Try.underlying22 (.int .i64 0) 8 info3 rfl (by decide) (by omega) (0 : Int) (ok := fun _ => True) (okp := fun _ => True) rfl (fun _ hk => hk) trivial n0 n1 (Below.refl _ _) (Nat.le_refl _) ?_; intro v7 w1 ho hb hg_ hnew_; clear hg_ hnew_; rw [HMm.out] at ho; have HO := Aside0.mk ho; obtain ⟨g7, cap, ev, gb, gl, cells7, gh⟩ := Kd.R_form ho (by rw [List.length_replicate]; omega); rw [List.length_replicate] at ev; subst ev; have HB1 := Aside0.mk hb; have GB := Aside0.mk gb; have GG := Aside0.mk gh; clear ho hb gb gl gh)
  go_loopw [17] (fun v17 wr => ∃ j : Nat, v17 = .int .i64 j ∧ j ≤ m ∧ Aside0 (Kd.R (Kd.int .i64) 3 wr w.heap.size (fun _ => True) (.slice (some ⟨g7, 0, none⟩) m cap) (KW.part 0 V m j)) ∧ Aside0 (Below w.heap.size w wr)) (fun i _ => m - (intOf i).toNat)
  case atStart => exact ⟨0, rfl, Nat.zero_le _, ⟨by rw [KW.part_zero]; exact HO.out⟩, HB1⟩
  case round =>
    clear HO HB1 q0
    obtain ⟨j, rfl, hj, HO, HJ⟩ := hrel
    have HM2 := Aside0.mk (HM.out.below HJ.out)
    by_cases hlt : j < m
    · have hltb : decide ((j : Int) < (m : Int)) = true := decide_eq_true (by omega)
      have q11 := HM2.out.c11
      have q12 := HM2.out.c12
      have q13 := HM2.out.c13
      have HCo := Aside0.mk (king_play_votes.contains_at F (by omega) (j : Int) (k := k) (by omega))
      have HVj := Aside0.mk (HVa.out j (by rw [HMm.out]; exact hlt))
      obtain ⟨hz, hf⟩ := KW.get_int HO.out (KW.part_len (by rw [HV.out, HMm.out]) hj) hlt
      by_cases hc : F.contains (j : Int) = true
      · rw [if_pos hc] at HVj
        rw [hc] at HCo
        clear hc
        go_wp2_with (first
          | (go_at_call 94; (with_reducible refine (slices_Contains_int_int.calls k _ _ F (j : Int) true _ ?side1 ?side2 HCo.out).mono ?_); (case side1 => exact HM2.out.rf); (case side2 => exact HM.out.hf); rintro e' w2 ⟨rfl, hd⟩; obtain ⟨⟨nd, rfl⟩⟩ := hd)
          | (go_at_call 84; (with_reducible refine (king_play_votes.lie_calls bl bc c.f0 AL cl L x (j : Int) t_ _ ?side1 HM.out.hl ?side2 ?side3 HX.out ?side4 ?side5 HT.out).mono ?_); (case side1 => exact Kd.C_drewN HM2.out.rl nd); (case side2 => exact HM2.out.lies); (case side3 => exact HM2.out.conf); (case side4 => omega); (case side5 => omega); rintro e' w3 ⟨rfl, hb⟩; have HO3 := Aside0.mk (Kd.R_below (Kd.R_drewN HO.out nd) hb); have HJ3 := Aside0.mk (below_step (pw_below_drewN HJ.out nd) hb); clear hb hz hf; obtain ⟨hz, hf⟩ := KW.get_int HO3.out (KW.part_len (by rw [HV.out, HMm.out]) hj) hlt))
        go_roundw
        case rel => exact ⟨j + 1, by go_num, hlt, ⟨by rw [← KW.part_put (by rw [HV.out, HMm.out]) hlt HVj.out]; exact KW.put_int HO3.out (KW.part_len (by rw [HV.out, HMm.out]) hj) j _⟩, ⟨HJ3.out.setCell (p := ⟨g7, j, none⟩) GB.out _⟩⟩
        case measure => simp [intOf]; omega
      · rw [if_neg hc] at HVj
        have hcf : F.contains (j : Int) = false := by simpa using hc
        rw [hcf] at HCo
        clear hc hcf
        obtain ⟨ad, ea, hb0, hb1⟩ := at_T52 HM2.out.rb (j : Int) (by omega) (by have := HBl.out; have := HMm.out; omega)
        subst ea
        rw [Int.toNat_natCast] at hb0 hb1
        have hjB : (j : Int) < (B.length : Int) := by have := HBl.out; have := HMm.out; omega
        go_wp2_with (go_at_call 94; (with_reducible refine (slices_Contains_int_int.calls k _ _ F (j : Int) false _ ?side1 ?side2 HCo.out).mono ?_); (case side1 => exact HM2.out.rf); (case side2 => exact HM.out.hf); rintro e' w2 ⟨rfl, hd⟩; obtain ⟨⟨nd, rfl⟩⟩ := hd)
        go_roundw
        case rel => exact ⟨j + 1, by go_num, hlt, ⟨by rw [← KW.part_put (by rw [HV.out, HMm.out]) hlt HVj.out]; exact KW.put_int (Kd.R_drewN HO.out nd) (KW.part_len (by rw [HV.out, HMm.out]) hj) j _⟩, ⟨(pw_below_drewN HJ.out nd).setCell (p := ⟨g7, j, none⟩) GB.out _⟩⟩
        case measure => simp [intOf]; omega
    · obtain rfl : j = m := by omega
      have hltb : decide ((j : Int) < (j : Int)) = false := decide_eq_false (by omega)
      go_wp2
      go_ret
      exact ⟨_, rfl, by rw [← KW.part_all (z := (0 : Int)) (V := V) (by rw [HV.out, HMm.out])]; exact HO.out, HJ.out⟩
end Go.Proofs.Ytfannnojhkkaiaa.X
