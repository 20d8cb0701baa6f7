import Derived.Test.YthblnnboeikgcaaYBeatSteps25
import Derived.Test.YthblnnboeikgcaaYBeatSteps27
import Derived.WalkKit
set_option maxHeartbeats 8000000
set_option maxRecDepth 100000
section
set_option linter.unusedVariables false
set_option linter.unusedSimpArgs false
set_option linter.unusedSectionVars false
namespace Go.Proofs.Ythblnnboeikgcaa.TallyLib
open Go.RowKit Go.Proofs.Ythblnnboeikgcaa.B Go.Proofs.YthblnnboeikgcaaW.PrintWords Go.Proofs.YthblnnboeikgcaaW.PrintMore Go.Proofs.Ythblnnboeikgcaa.ConfLib
theorem C_nil (v : Int) : C v [] = 0 := by
  unfold C
  split <;> rfl
theorem C_cons (v a : Int) (l : List Int) : C v (a :: l) = C v l + (if a = v ∧ 0 ≤ v ∧ v ≤ 2 then 1 else 0) := by
  unfold C
  by_cases h : v < 0 ∨ 3 ≤ v
  · rw [if_pos h, if_pos h, if_neg (by omega)]
    rfl
  · rw [if_neg h, if_neg h, List.count_cons]
    by_cases e : a = v
    · rw [if_pos (by rw [e]; exact beq_self_eq_true _), if_pos ⟨e, by omega, by omega⟩]
      omega
    · rw [if_neg (by simpa using e), if_neg (fun h => e h.1)]
      omega
theorem ref_count_loop (v : Int) (l : List Int) (hl : l.length ≤ 1000) (q : Nat) : ∀ (k i : Nat) (x : Int), i + q = l.length → q < k → 0 ≤ x → x ≤ i → r13Count.l0 k v l x (i : Int) = some (x + C v (l.drop i)) := by
  induction q with
  | zero =>
    intro k i x hi hk h0 h1
    obtain ⟨k, rfl⟩ : ∃ j, k = j + 1 := ⟨k - 1, by omega⟩
    simp only [r13Count.l0]
    rw [if_neg (by omega), List.drop_eq_nil_of_le (by omega), C_nil]
    simp
  | succ q ih =>
    intro k i x hi hk h0 h1
    obtain ⟨k, rfl⟩ : ∃ j, k = j + 1 := ⟨k - 1, by omega⟩
    have hlt : i < l.length := by omega
    have hlt' : (i : Int) < (l.length : Int) := by omega
    have hi0 : (0 : Int) ≤ (i : Int) := by omega
    simp only [r13Count.l0]
    rw [if_pos hlt', List.drop_eq_getElem_cons hlt, C_cons, rd_at hlt, ConfLib.wrap_small (n := (i : Int) + 1) (by omega) (by omega), ConfLib.wrap_small (n := x + 1) (by omega) (by omega)]
    have a1 := ih k (i + 1) x (by omega) (by omega) (by omega) (by omega)
    have a2 := ih k (i + 1) (x + 1) (by omega) (by omega) (by omega) (by omega)
    rw [show (((i + 1 : Nat) : Int)) = (i : Int) + 1 by omega] at a1 a2
    by_cases g1 : v ≥ 0
    · rw [if_pos g1]
      by_cases g2 : v ≤ 2
      · rw [if_pos g2, if_pos hi0]
        by_cases g3 : l[i] = v
        · rw [if_pos g3, if_pos ⟨g3, g1, g2⟩, a2]
          congr 1
          omega
        · rw [if_neg g3, if_neg (fun h => g3 h.1), a1]
          simp
      · rw [if_neg g2, if_neg (fun h => g2 h.2.2), a1]
        simp
    · rw [if_neg g1, if_neg (fun h => g1 h.2.1), a1]
      simp
theorem ref_count_at (v : Int) (l : List Int) (hl : l.length ≤ 1000) {k : Nat} (hk : 1000 < k) : r13Count.f k v l = some (C v l) := by
  unfold r13Count.f
  have := ref_count_loop v l hl l.length k 0 0 (by omega) (by omega) (by omega) (by omega)
  simpa using this
section
variable (n f d p r dr o s m fr : Int) (t : List Int)
theorem ref_enough_at (v : Int) (l : List Int) (hl : l.length ≤ 1000) {k : Nat} (hk : 1000 < k) : r13Enough.f k n f d p r dr o s m fr t v l = some (E n f d p r dr o s m fr t v l) := by
  unfold r13Enough.f E
  rw [ref_plain_at n f d p r dr o s m fr t (by omega), ref_count_at v l hl hk]
  simp only [Option.bind_some]
  by_cases hp : plain n f d p r dr o s m fr t = 0
  · have hb := plain_facts hp
    rw [if_pos hp, ConfLib.wrap_small (by omega) (by omega)]
    simp [hp]
  · rw [if_neg hp]
    simp [hp]
theorem ref_most_at (l : List Int) (hl : l.length ≤ 1000) {k : Nat} (hk : 1000 < k) : r13Most.f k n f d p r dr o s m fr t l = some (M n f d p r dr o s m fr t l) := by
  unfold r13Most.f M
  rw [ref_enough_at n f d p r dr o s m fr t 1 l hl hk, ref_enough_at n f d p r dr o s m fr t 0 l hl hk]
  simp only [Option.bind_some, E, decide_eq_true_eq]
  by_cases hp : plain n f d p r dr o s m fr t = 0
  · rw [if_pos hp]
    by_cases h1 : n - f ≤ C 1 l
    · rw [if_pos ⟨hp, h1⟩, if_pos h1]
    · rw [if_neg (fun h => h1 h.2), if_neg h1]
      by_cases h0 : n - f ≤ C 0 l
      · rw [if_pos ⟨hp, h0⟩, if_pos h0]
      · rw [if_neg (fun h => h0 h.2), if_neg h0]
  · rw [if_neg (fun h => hp h.1), if_neg (fun h => hp h.1), if_neg hp]
theorem ref_least_at (now : Int) (l : List Int) (hl : l.length ≤ 1000) {k : Nat} (hk : 1010 < k) : r13Least.f k n f d p r dr o s m fr t now l = some (L n f d p r dr o s m fr t now l) := by
  unfold r13Least.f L
  rw [ref_plain_at n f d p r dr o s m fr t (by omega)]
  simp only [Option.bind_some]
  by_cases hp : plain n f d p r dr o s m fr t = 0
  · rw [if_pos hp, if_pos hp]
    obtain ⟨k, rfl⟩ : ∃ j, k = j + 4 := ⟨k - 4, by omega⟩
    have w1 : wrap64 (0 + 1) = 1 := by decide +kernel
    have w2 : wrap64 (1 + 1) = 2 := by decide +kernel
    have w3 : wrap64 (2 + 1) = 3 := by decide +kernel
    simp only [r13Least.l0, w1, w2, w3]
    rw [ref_count_at 0 l hl (by omega), ref_count_at 1 l hl (by omega), ref_count_at 2 l hl (by omega)]
    simp only [Option.bind_some, gt_iff_lt, Int.lt_iff_add_one_le]
    simp
    repeat' split
    all_goals first | rfl | omega
  · rw [if_neg hp, if_neg hp]
end
end Go.Proofs.Ythblnnboeikgcaa.TallyLib
end
section
set_option linter.unusedVariables false
set_option linter.unusedSimpArgs false
namespace Go.Proofs.Ythblnnboeikgcaa.KingMath
def cnt (v : Int) (l : List Int) : Int := (l.count v : Nat)
def most (n f : Int) (l : List Int) : Int := if n - f ≤ cnt 1 l then 1 else if n - f ≤ cnt 0 l then 0 else 2
def least (f now : Int) (l : List Int) : Int := if f + 1 ≤ cnt 0 l then 0 else if f + 1 ≤ cnt 1 l then 1 else if f + 1 ≤ cnt 2 l then 2 else now
def told (k : Int) : Int := if k = 1 ∨ k = 2 then 1 else 0
def step (n f : Int) (x : Nat) (b : Int × Bool) (king : Int) (l : List Int) : Int × Bool :=
  if x % 3 = 0 then (most n f l, false)
  else if x % 3 = 1 then (least f b.1 l, decide (n - f ≤ cnt (least f b.1 l) l))
  else if b.1 = 2 ∨ b.2 = false then (told king, false) else (b.1, false)
section
variable (n f : Nat) (hon : Nat → Bool)
def bad : Nat := (List.range n).countP (fun k => !hon k)
variable {n f hon}
variable (hf : bad n hon ≤ f) (hn : 3 * f < n)
include hf hn
end
section
variable {n f : Nat} {hon : Nat → Bool} {s : Nat → Nat → Int × Bool} {vt : Nat → Nat → List Int}
end
end Go.Proofs.Ythblnnboeikgcaa.KingMath
end
section
namespace Go.Proofs.Ythblnnboeikgcaa.B
open Go.RowKit Go.Proofs.YthblnnboeikgcaaW.PrintWords Go.Proofs.YthblnnboeikgcaaW.PrintLast Go.Proofs.YthblnnboeikgcaaW.PrintMore
attribute [local go_sem] max2_int min2_int max_two min_two max_three min_three max_four min_four   -- for this text's walks alone
set_option linter.unusedVariables false
set_option linter.unusedSimpArgs false
def king_Read.f (a0 : Int) : Option (Int × Bool) := if a0 < 0 then (some (2, false)) else (if a0 ≥ 6 then (some (2, false)) else (some (Int.tmod a0 3, decide (a0 ≥ 3))))
theorem king_Read.calls (a0 : Int) (r1 : Int) (r2 : Bool) (w : World) (h : king_Read.f a0 = some (r1, r2)) :
  Calls Try.prog 134 #[.int .i64 a0] w fun e w' => e = .returned (.agg #[.int .i64 r1, .bool r2]) ∧ Below w.heap.size w w' := by
 have hu59 := Try.underlying59
 have HB := Sd.mk (Below.refl w.heap.size w)
 have H : (if a0 < 0 then (some (2, false)) else (if a0 ≥ 6 then (some (2, false)) else (some (Int.tmod a0 3, decide (a0 ≥ 3))))) = some (r1, r2) := h
 clear h
 by_cases c2 : a0 < 0
 ·
  rw [if_pos c2] at H
  have c2b0 : decide (a0 < 0) = true := decide_eq_true c2
  clear c2
  simp only [Option.some.injEq, Prod.mk.injEq] at H
  obtain ⟨rfl, rfl⟩ := H
  go_enter Try.func134, Try.ntmps134
  go_wp2_with (first | ((with_reducible refine gate_dst (N := 2) rfl ?_); refine box_event ?hg (N := 2) ?hd (cs := #[.int .i64 0, .bool false]) (t := 59) ?hr ?_; (case hd => rfl); (case hg => rfl); (case hr => first | (go_simp; done) | (go_simp; rfl)); intro gb169 hg w3 hbox hb; have n0_ := Sd.mk (below_step bel_ hb); have n1_ := Sd.mk (hbox); have n2_ := Sd.mk ((by rw [hg]; exact (below_size bel_) : w.heap.size ≤ gb169)); have n3_ := Sd.mk ((by rw [hg]; exact (below_size bel_) : w.heap.size ≤ gb169)); clear HB; have HB := n0_; have BK169 := n1_; have GW169 := n2_; have GE169 := n3_; clear n0_ n1_ n2_ n3_; clear hb hbox hg; obtain ⟨z4_0, z4_1, j4_0, j4_1⟩ := cells2 BK169.out))
  refine bodyPost_ret (results_cell_row rfl _ _ gb169 59 #[.int .i64 2, .bool false] (0, 0) _ rfl (by (with_reducible repeat (first | refine blk_drewN ?_ _ | refine blk_drew ?_ | refine blk_alloc ?_ _)); refine blk_put (cs := #[.int .i64 2, .bool false]) ?_ 1 _ rfl; (with_reducible repeat (first | refine blk_drewN ?_ _ | refine blk_drew ?_ | refine blk_alloc ?_ _)); refine blk_put (cs := #[.int .i64 0, .bool false]) ?_ 0 _ rfl; (with_reducible repeat (first | refine blk_drewN ?_ _ | refine blk_drew ?_ | refine blk_alloc ?_ _)); exact BK169.out) Try.underlying59 rfl (by kernel_rfl)) rfl ?_
  exact ⟨by first | rfl | (simp [errW_none, errW_some] <;> rfl) | (simp [*, errW_none, errW_some] <;> rfl), bel_⟩
 ·
  rw [if_neg c2] at H
  have c2b0 : decide (a0 < 0) = false := decide_eq_false c2
  clear c2
  by_cases c5 : a0 ≥ 6
  ·
   rw [if_pos c5] at H
   have c5b0 : decide (6 ≤ a0) = true := decide_eq_true c5
   clear c5
   simp only [Option.some.injEq, Prod.mk.injEq] at H
   obtain ⟨rfl, rfl⟩ := H
   go_enter Try.func134, Try.ntmps134
   go_wp2_with (first | ((with_reducible refine gate_dst (N := 2) rfl ?_); refine box_event ?hg (N := 2) ?hd (cs := #[.int .i64 0, .bool false]) (t := 59) ?hr ?_; (case hd => rfl); (case hg => rfl); (case hr => first | (go_simp; done) | (go_simp; rfl)); intro gb169 hg w6 hbox hb; have n0_ := Sd.mk (below_step bel_ hb); have n1_ := Sd.mk (hbox); have n2_ := Sd.mk ((by rw [hg]; exact (below_size bel_) : w.heap.size ≤ gb169)); have n3_ := Sd.mk ((by rw [hg]; exact (below_size bel_) : w.heap.size ≤ gb169)); clear HB; have HB := n0_; have BK169 := n1_; have GW169 := n2_; have GE169 := n3_; clear n0_ n1_ n2_ n3_; clear hb hbox hg; obtain ⟨z7_0, z7_1, j7_0, j7_1⟩ := cells2 BK169.out))
   refine bodyPost_ret (results_cell_row rfl _ _ gb169 59 #[.int .i64 2, .bool false] (0, 0) _ rfl (by (with_reducible repeat (first | refine blk_drewN ?_ _ | refine blk_drew ?_ | refine blk_alloc ?_ _)); refine blk_put (cs := #[.int .i64 2, .bool false]) ?_ 1 _ rfl; (with_reducible repeat (first | refine blk_drewN ?_ _ | refine blk_drew ?_ | refine blk_alloc ?_ _)); refine blk_put (cs := #[.int .i64 0, .bool false]) ?_ 0 _ rfl; (with_reducible repeat (first | refine blk_drewN ?_ _ | refine blk_drew ?_ | refine blk_alloc ?_ _)); exact BK169.out) Try.underlying59 rfl (by kernel_rfl)) rfl ?_
   exact ⟨by first | rfl | (simp [errW_none, errW_some] <;> rfl) | (simp [*, errW_none, errW_some] <;> rfl), bel_⟩
  ·
   rw [if_neg c5] at H
   have c5b0 : decide (6 ≤ a0) = false := decide_eq_false c5
   clear c5
   simp only [Option.some.injEq, Prod.mk.injEq] at H
   obtain ⟨rfl, rfl⟩ := H
   go_enter Try.func134, Try.ntmps134
   go_wp2_with (first | ((with_reducible refine gate_dst (N := 2) rfl ?_); refine box_event ?hg (N := 2) ?hd (cs := #[.int .i64 0, .bool false]) (t := 59) ?hr ?_; (case hd => rfl); (case hg => rfl); (case hr => first | (go_simp; done) | (go_simp; rfl)); intro gb169 hg w8 hbox hb; have n0_ := Sd.mk (below_step bel_ hb); have n1_ := Sd.mk (hbox); have n2_ := Sd.mk ((by rw [hg]; exact (below_size bel_) : w.heap.size ≤ gb169)); have n3_ := Sd.mk ((by rw [hg]; exact (below_size bel_) : w.heap.size ≤ gb169)); clear HB; have HB := n0_; have BK169 := n1_; have GW169 := n2_; have GE169 := n3_; clear n0_ n1_ n2_ n3_; clear hb hbox hg; obtain ⟨z9_0, z9_1, j9_0, j9_1⟩ := cells2 BK169.out))
   refine bodyPost_ret (results_cell_row rfl _ _ gb169 59 #[.int .i64 (Int.tmod a0 3), .bool (decide (a0 ≥ 3))] (0, 0) _ rfl (by (with_reducible repeat (first | refine blk_drewN ?_ _ | refine blk_drew ?_ | refine blk_alloc ?_ _)); refine blk_put (cs := #[.int .i64 (Int.tmod a0 3), .bool false]) ?_ 1 _ rfl; (with_reducible repeat (first | refine blk_drewN ?_ _ | refine blk_drew ?_ | refine blk_alloc ?_ _)); refine blk_put (cs := #[.int .i64 0, .bool false]) ?_ 0 _ rfl; (with_reducible repeat (first | refine blk_drewN ?_ _ | refine blk_drew ?_ | refine blk_alloc ?_ _)); exact BK169.out) Try.underlying59 rfl (by kernel_rfl)) rfl ?_
   exact ⟨by first | rfl | (simp [errW_none, errW_some] <;> rfl) | (simp [*, errW_none, errW_some] <;> rfl), bel_⟩
def vec_read.f (a0 : Int) : Option (Int × Bool) := (king_Read.f (wrap64 ((wrap64 (a0)) - 48))).bind fun bt171 => (some (bt171.1, bt171.2))
theorem vec_read.calls (a0 : Int) (r1 : Int) (r2 : Bool) (w : World) (h : vec_read.f a0 = some (r1, r2)) :
  Calls Try.prog 108 #[.int .u8 a0] w fun e w' => e = .returned (.agg #[.int .i64 r1, .bool r2]) ∧ Below w.heap.size w w' := by
 have hu59 := Try.underlying59
 have HB := Sd.mk (Below.refl w.heap.size w)
 have H : ((king_Read.f (wrap64 ((wrap64 (a0)) - 48))).bind fun bt171 => (some (bt171.1, bt171.2))) = some (r1, r2) := h
 clear h
 replace H := Option.bind_eq_some_iff.mp H
 obtain ⟨⟨t171, t172⟩, A20, H⟩ := H
 replace H : (some (t171, t172)) = some (r1, r2) := H
 have A2 := Sd.mk A20
 clear A20
 simp only [Option.some.injEq, Prod.mk.injEq] at H
 obtain ⟨rfl, rfl⟩ := H
 go_enter Try.func108, Try.ntmps108
 go_wp2_with (first | ((with_reducible refine gate_dst (N := 2) rfl ?_); refine box_event ?hg (N := 2) ?hd (cs := #[.int .i64 0, .bool false]) (t := 59) ?hr ?_; (case hd => rfl); (case hg => rfl); (case hr => first | (go_simp; done) | (go_simp; rfl)); intro gb170 hg w3 hbox hb; have n0_ := Sd.mk (below_step bel_ hb); have n1_ := Sd.mk (hbox); have n2_ := Sd.mk ((by rw [hg]; exact (below_size bel_) : w.heap.size ≤ gb170)); have n3_ := Sd.mk ((by rw [hg]; exact (below_size bel_) : w.heap.size ≤ gb170)); clear HB; have HB := n0_; have BK170 := n1_; have GW170 := n2_; have GE170 := n3_; clear n0_ n1_ n2_ n3_; clear hb hbox hg) | ((with_reducible refine gate_callee (f := 134) rfl ?_); refine goesL_ (some 6) rfl rfl Try.func134 (by kernel_rfl) rfl #[.int .i64 (wrap64 ((wrap64 (a0)) - 48))] rfl (by (try simp only [List.map_toArray, List.map_cons, List.map_nil]); first | done | rfl | (simp only [List.length_drop, List.length_take]; rfl)) ?_; (with_reducible refine (king_Read.calls (wrap64 ((wrap64 (a0)) - 48)) t171 t172 _ A2.out).mono ?_); rintro e w4 ⟨rfl, hb⟩; refine ⟨_, rfl, ?_⟩; have n0_ := Sd.mk (blk_below (g := gb170) blk_ hb); have n1_ := Sd.mk (below_step bel_ hb); clear BK170; clear HB; have BK170 := n0_; have HB := n1_; clear n0_ n1_; (try clear hb); (try clear hb2); (try clear hk); (try clear hi); obtain ⟨z5_0, z5_1, j5_0, j5_1⟩ := cells2 BK170.out))
 refine bodyPost_ret (results_cell_row rfl _ _ gb170 59 #[.int .i64 t171, .bool t172] (0, 0) _ rfl (by (with_reducible repeat (first | refine blk_drewN ?_ _ | refine blk_drew ?_ | refine blk_alloc ?_ _)); refine blk_put (cs := #[.int .i64 t171, .bool false]) ?_ 1 _ rfl; (with_reducible repeat (first | refine blk_drewN ?_ _ | refine blk_drew ?_ | refine blk_alloc ?_ _)); refine blk_put (cs := #[.int .i64 0, .bool false]) ?_ 0 _ rfl; (with_reducible repeat (first | refine blk_drewN ?_ _ | refine blk_drew ?_ | refine blk_alloc ?_ _)); exact BK170.out) Try.underlying59 rfl (by kernel_rfl)) rfl ?_
 exact ⟨by first | rfl | (simp [errW_none, errW_some] <;> rfl) | (simp [*, errW_none, errW_some] <;> rfl), bel_⟩
end Go.Proofs.Ythblnnboeikgcaa.B
end
