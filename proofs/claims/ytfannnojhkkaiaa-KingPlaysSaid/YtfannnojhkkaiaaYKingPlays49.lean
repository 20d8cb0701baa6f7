import Derived.Test.YtfannnojhkkaiaaYKingPlays48
import Derived.Test.YtfannnojhkkaiaaYKingPlays28
import Derived.Test.YtfannnojhkkaiaaYKingPlays36
import Derived.Test.YtfannnojhkkaiaaYKingPlays23
set_option linter.unusedVariables false
set_option linter.unusedSimpArgs false
set_option linter.unusedSectionVars false
namespace Go.Proofs.Ytfannnojhkkaiaa.KingLib
open Go.RowKit Go.Proofs.Ytfannnojhkkaiaa.X Go.Proofs.YtfannnojhkkaiaaW.PrintWords Go.Proofs.YtfannnojhkkaiaaW.PrintMore Go.Proofs.Ytfannnojhkkaiaa.ConfLib Go.Proofs.Ytfannnojhkkaiaa.TallyLib
abbrev Bit := S52
abbrev Cf := S24
abbrev rdB := rd_T52
section
variable (n f d p r dr o s m fr : Int) (t F L : List Int)
abbrev votes (x : Int) (B : List Bit) (i : Int) : List Int := king_play_votes.votes n F L B x i
def bitNext (x : Int) (B : List Bit) (j : Int) : Bit := ⟨(step n f d p r dr o s m fr t x (rdB B j).f0 (rdB B j).f1 (rd (votes n F L x B j) (x / 3)) (votes n F L x B j)).1, (step n f d p r dr o s m fr t x (rdB B j).f0 (rdB B j).f1 (rd (votes n F L x B j) (x / 3)) (votes n F L x B j)).2⟩
def exch (x : Int) (B : List Bit) : List Bit := (List.range n.toNat).map (fun (j : Nat) => bitNext n f d p r dr o s m fr t F L x B (j : Int))
def run : Nat → Int → List Bit → List Bit
  | 0, _, B => B
  | q + 1, x, B => run q (x + 1) (exch n f d p r dr o s m fr t F L x B)
theorem exch_len (x : Int) (B : List Bit) : (exch n f d p r dr o s m fr t F L x B).length = n.toNat := by simp [exch]
theorem exchange_at (hn : n ≤ 13) (x : Int) (B : List Bit) {k : Nat} (hk : 10 < k) : ∀ js : List Nat, king_play_exchange.f k (⟨n, f, d, p, r, dr, o, s, m, fr, t⟩ : Cf) F L x B js = some (js.map (fun (j : Nat) => bitNext n f d p r dr o s m fr t F L x B (j : Int)))
  | [] => rfl
  | j :: js => by
    have hl : (votes n F L x B (j : Int)).length ≤ 1000000 := by rw [king_play_votes.votes_len]; omega
    unfold king_play_exchange.f
    rw [step_at n f d p r dr o s m fr t _ _ _ _ _ hl hk, exchange_at hn x B hk js]
    rfl
theorem run_at (hn : n ≤ 13) {k : Nat} (hk : 10 < k) : ∀ (q : Nat) (x : Int) (B : List Bit), king_Play.run k (⟨n, f, d, p, r, dr, o, s, m, fr, t⟩ : Cf) F L q x B = some (run n f d p r dr o s m fr t F L q x B)
  | 0, _, _ => rfl
  | q + 1, x, B => by
    unfold king_Play.run run
    rw [exchange_at n f d p r dr o s m fr t F L hn x B hk]
    exact run_at hn hk q (x + 1) _
def play (bits : List Int) : List Int := if plain n f d p r dr o s m fr t = 0 then king_play_ends.ends F (run n f d p r dr o s m fr t F L (3 * (f + 1)).toNat 0 (king_Play.first n bits)) else []
theorem play_at (hF : F.length ≤ 20) (bits : List Int) {k : Nat} (hk : 30 < k) : king_Play.f k n f d p r dr o s m fr t bits F L = some (play n f d p r dr o s m fr t F L bits) := by
  unfold king_Play.f play
  rw [plain_at n f d p r dr o s m fr t (by omega)]
  simp only [Option.bind_some]
  by_cases hp : plain n f d p r dr o s m fr t = 0
  · have hb := plain_facts hp
    rw [if_pos hp, if_pos hp, if_pos (by omega), rounds_at n f d p r dr o s m fr t (by omega)]
    simp only [Option.bind_some]
    rw [show ConfLib.rounds n f d p r dr o s m fr t = 3 * (f + 1) from by unfold ConfLib.rounds; rw [if_pos hp], if_pos (by omega), run_at n f d p r dr o s m fr t F L (by omega) (by omega)]
    rfl
  · rw [if_neg hp, if_neg hp]
theorem run_len : ∀ (q : Nat) (x : Int) (B : List Bit), B.length = n.toNat → (run n f d p r dr o s m fr t F L q x B).length = n.toNat
  | 0, _, _, h => h
  | q + 1, x, B, h => run_len q (x + 1) _ (exch_len n f d p r dr o s m fr t F L x B)
def at_ (bits : List Int) : Nat → List Bit
  | 0 => king_Play.first n bits
  | x + 1 => exch n f d p r dr o s m fr t F L (x : Int) (at_ bits x)
end
section
variable (n f d p r dr o s m fr : Int) (t F L : List Int)
theorem say_ev (hF : F.length ≤ 1000000) (B : List Bit) (x a b : Int) (hx : 0 ≤ x ∧ x ≤ 60) (hn : 0 ≤ n ∧ n ≤ 13) (ha : 0 ≤ a ∧ a ≤ 13) (hb : 0 ≤ b ∧ b ≤ 13) (hB : a < (B.length : Int)) :
    Ev (fun k => bellwetherref14_say.f k n f d p r dr o s m fr t B F L x a b) (if F.contains a then king_play_votes.lie n L x a b else (rdB B a).f0) := by
  have hw := king_play_votes.bounds hx hn ha hb
  refine Ev.congr (fun k => bellwetherref14_say.f.eq_1 ..) ?_
  refine Ev.bind (in_ev F hF a) ?_
  by_cases h : F.contains a = true
  · refine Ev.pos h ?_
    rw [if_pos h]
    unfold king_play_votes.lie
    by_cases h0 : L.length = 0
    · refine Ev.pos (by omega) (Ev.val ?_)
      rw [if_pos h0]
    · refine Ev.neg (by omega) ?_
      rw [if_neg h0]
      rw [ConfLib.wrap_small (n := x * n) (by omega) (by omega), ConfLib.wrap_small (n := x * n + a) (by omega) (by omega), ConfLib.wrap_small (n := (x * n + a) * n) (by omega) (by omega), ConfLib.wrap_small (n := (x * n + a) * n + b) (by omega) (by omega), Int.tmod_eq_emod_of_nonneg (by omega)]
      have g0 : 0 ≤ ((x * n + a) * n + b) % (L.length : Int) := Int.emod_nonneg _ (by omega)
      have g1 : ((x * n + a) * n + b) % (L.length : Int) < L.length := Int.emod_lt_of_pos _ (by omega)
      exact Ev.pos g0 (Ev.pos g1 (Ev.val rfl))
  · refine Ev.neg h ?_
    rw [if_neg h]
    exact Ev.pos ha.1 (Ev.pos hB (Ev.val rfl))
theorem succ_w {i : Nat} (h : i ≤ 1000) : wrap64 ((i : Int) + 1) = ((i + 1 : Nat) : Int) := by
  rw [ConfLib.wrap_small (by omega) (by omega)]
  rfl
theorem take_map_succ {α : Type} (g : Nat → α) {m j : Nat} (hj : j < m) : (((List.range m).map g).take j) ++ [g j] = ((List.range m).map g).take (j + 1) := by
  rw [List.take_succ_eq_append_getElem (by simpa using hj)]
  simp
theorem ref_l4 (hF : F.length ≤ 1000000) (B : List Bit) (hn : 0 ≤ n ∧ n ≤ 13) (hB : B.length = n.toNat) (q : Nat) : ∀ i : Nat, i + q = n.toNat → Ev (fun k => bellwetherref14_Play.l4 k F B ((king_play_ends.ends F B).take i) (i : Int) n f d p r dr o s m fr t) (king_play_ends.ends F B) := by
  have he := king_play_ends.ends_len F B
  induction q with
  | zero =>
    intro i hi
    refine Ev.step (fun k => bellwetherref14_Play.l4.eq_2 ..) ?_
    refine Ev.neg (by omega) (Ev.val ?_)
    rw [List.take_of_length_le (by omega)]
  | succ q ih =>
    intro i hi
    have hs : ((king_play_ends.ends F B).take i) ++ [if F.contains (i : Int) then -1 else (rdB B (i : Int)).f0] = (king_play_ends.ends F B).take (i + 1) := by
      unfold king_play_ends.ends
      exact take_map_succ (fun (k : Nat) => if F.contains (k : Int) then -1 else (rdB B (k : Int)).f0) (by omega)
    refine Ev.step (fun k => bellwetherref14_Play.l4.eq_2 ..) ?_
    refine Ev.pos (by omega) ?_
    refine Ev.bind (in_ev F hF (i : Int)) ?_
    have hl : ((king_play_ends.ends F B).take i).length < 17592186044416 := Nat.lt_of_le_of_lt (m := 13) (by rw [List.length_take]; omega) (by decide)
    by_cases h : F.contains (i : Int) = true
    · rw [if_pos h] at hs
      refine Ev.pos h (Ev.pos hl ?_)
      rw [hs, succ_w (by omega)]
      exact ih (i + 1) (by omega)
    · rw [if_neg h] at hs
      refine Ev.neg h (Ev.pos (by omega) (Ev.pos (by omega) (Ev.pos hl ?_)))
      rw [hs, succ_w (by omega)]
      exact ih (i + 1) (by omega)
theorem ref_l3 (hF : F.length ≤ 1000000) (B : List Bit) (x : Nat) (hx : x ≤ 60) (hn : 1 ≤ n ∧ n ≤ 13) (hx3 : (x : Int) / 3 < n) (hB : B.length = n.toNat) (i : Nat) (hi : i < n.toNat) (nx : List Bit) (hnx : nx.length ≤ 1000) (res : List Int)
    (h2 : Ev (fun k => bellwetherref14_Play.l2 k F L B (x : Int) (nx ++ [bitNext n f d p r dr o s m fr t F L (x : Int) B (i : Int)]) ((i + 1 : Nat) : Int) n f d p r dr o s m fr t) res) (q : Nat) :
    ∀ j : Nat, j + q = n.toNat → Ev (fun k => bellwetherref14_Play.l3 k F L B (x : Int) nx (i : Int) ((votes n F L (x : Int) B (i : Int)).take j) (j : Int) n f d p r dr o s m fr t) res := by
  have he : (votes n F L (x : Int) B (i : Int)).length = n.toNat := king_play_votes.votes_len n F L B (x : Int) (i : Int)
  induction q with
  | zero =>
    intro j hj
    refine Ev.step (fun k => bellwetherref14_Play.l3.eq_2 ..) ?_
    rw [List.take_of_length_le (by omega), ConfLib.wrap_small (n := Int.tdiv (x : Int) 3) (by rw [Int.tdiv_eq_ediv_of_nonneg (by omega)]; omega) (by rw [Int.tdiv_eq_ediv_of_nonneg (by omega)]; omega), Int.tdiv_eq_ediv_of_nonneg (by omega)]
    refine Ev.neg (by omega) (Ev.pos (by omega) (Ev.pos (by omega) (Ev.pos (by omega) (Ev.pos (by omega) ?_))))
    refine Ev.bind (Ev.from 1010 (fun k hk => ref_step_at n f d p r dr o s m fr t _ _ _ _ _ (by omega) hk)) ?_
    refine Ev.pos (by omega) ?_
    rw [ConfLib.wrap_small (n := (i : Int) + 1) (by omega) (by omega)]
    exact h2
  | succ q ih =>
    intro j hj
    have hs : ((votes n F L (x : Int) B (i : Int)).take j) ++ [if F.contains (j : Int) then king_play_votes.lie n L (x : Int) (j : Int) (i : Int) else (rdB B (j : Int)).f0] = (votes n F L (x : Int) B (i : Int)).take (j + 1) := by
      unfold votes king_play_votes.votes
      exact take_map_succ (fun (k : Nat) => if F.contains (k : Int) then king_play_votes.lie n L (x : Int) (k : Int) (i : Int) else (rdB B (k : Int)).f0) (by omega)
    have hl : ((votes n F L (x : Int) B (i : Int)).take j).length < 17592186044416 := Nat.lt_of_le_of_lt (m := 13) (by rw [List.length_take]; omega) (by decide)
    refine Ev.step (fun k => bellwetherref14_Play.l3.eq_2 ..) ?_
    refine Ev.pos (by omega) ?_
    refine Ev.bind (say_ev n f d p r dr o s m fr t F L hF B (x : Int) (j : Int) (i : Int) (by omega) (by omega) (by omega) (by omega) (by omega)) ?_
    refine Ev.pos hl ?_
    rw [hs, succ_w (by omega)]
    exact ih (j + 1) (by omega)
theorem ref_l2 (hF : F.length ≤ 1000000) (B : List Bit) (x : Nat) (hx : x ≤ 60) (hn : 1 ≤ n ∧ n ≤ 13) (hx3 : (x : Int) / 3 < n) (hB : B.length = n.toNat) (res : List Int)
    (h1 : Ev (fun k => bellwetherref14_Play.l1 k F L (exch n f d p r dr o s m fr t F L (x : Int) B) ((x + 1 : Nat) : Int) n f d p r dr o s m fr t) res) (q : Nat) :
    ∀ i : Nat, i + q = n.toNat → Ev (fun k => bellwetherref14_Play.l2 k F L B (x : Int) ((exch n f d p r dr o s m fr t F L (x : Int) B).take i) (i : Int) n f d p r dr o s m fr t) res := by
  have he := exch_len n f d p r dr o s m fr t F L (x : Int) B
  induction q with
  | zero =>
    intro i hi
    refine Ev.step (fun k => bellwetherref14_Play.l2.eq_2 ..) ?_
    rw [List.take_of_length_le (by omega), ConfLib.wrap_small (n := (x : Int) + 1) (by omega) (by omega)]
    exact Ev.neg (by omega) h1
  | succ q ih =>
    intro i hi
    have hs : ((exch n f d p r dr o s m fr t F L (x : Int) B).take i) ++ [bitNext n f d p r dr o s m fr t F L (x : Int) B (i : Int)] = (exch n f d p r dr o s m fr t F L (x : Int) B).take (i + 1) := by
      unfold exch
      exact take_map_succ (fun (k : Nat) => bitNext n f d p r dr o s m fr t F L (x : Int) B (k : Int)) (by omega)
    have hl : ((exch n f d p r dr o s m fr t F L (x : Int) B).take i).length ≤ 1000 := by rw [List.length_take]; omega
    refine Ev.step (fun k => bellwetherref14_Play.l2.eq_2 ..) ?_
    refine Ev.pos (by omega) ?_
    have := ref_l3 n f d p r dr o s m fr t F L hF B x hx hn hx3 hB i (by omega) _ hl res (by rw [hs]; exact ih (i + 1) (by omega)) n.toNat 0 (by omega)
    exact this
theorem ref_l1 (hp : plain n f d p r dr o s m fr t = 0) (hF : F.length ≤ 1000000) (q : Nat) : ∀ (x : Nat) (B : List Bit), x + q = (3 * (f + 1)).toNat → B.length = n.toNat → Ev (fun k => bellwetherref14_Play.l1 k F L B (x : Int) n f d p r dr o s m fr t) (king_play_ends.ends F (run n f d p r dr o s m fr t F L q (x : Int) B)) := by
  have hb := plain_facts hp
  have hr : ConfLib.rounds n f d p r dr o s m fr t = 3 * (f + 1) := by unfold ConfLib.rounds; rw [if_pos hp]
  induction q with
  | zero =>
    intro x B hx hB
    refine Ev.step (fun k => bellwetherref14_Play.l1.eq_2 ..) ?_
    refine Ev.bind (Ev.from 700 (fun k hk => ref_rounds_at n f d p r dr o s m fr t hk)) ?_
    rw [hr]
    refine Ev.neg (by omega) ?_
    exact ref_l4 n f d p r dr o s m fr t F hF B (by omega) hB n.toNat 0 (by omega)
  | succ q ih =>
    intro x B hx hB
    refine Ev.step (fun k => bellwetherref14_Play.l1.eq_2 ..) ?_
    refine Ev.bind (Ev.from 700 (fun k hk => ref_rounds_at n f d p r dr o s m fr t hk)) ?_
    rw [hr]
    refine Ev.pos (by omega) ?_
    have h1 := ih (x + 1) (exch n f d p r dr o s m fr t F L (x : Int) B) (by omega) (exch_len n f d p r dr o s m fr t F L _ _)
    exact ref_l2 n f d p r dr o s m fr t F L hF B x (by omega) (by omega) (by omega) hB _ h1 n.toNat 0 (by omega)
theorem ref_l0 (hp : plain n f d p r dr o s m fr t = 0) (hF : F.length ≤ 1000000) (bits : List Int) (q : Nat) : ∀ i : Nat, i + q = n.toNat → Ev (fun k => bellwetherref14_Play.l0 k bits F L ((king_Play.first n bits).take i) (i : Int) n f d p r dr o s m fr t) (play n f d p r dr o s m fr t F L bits) := by
  have hb := plain_facts hp
  have he := king_Play.first_len n bits
  induction q with
  | zero =>
    intro i hi
    refine Ev.step (fun k => bellwetherref14_Play.l0.eq_2 ..) ?_
    rw [List.take_of_length_le (by omega)]
    refine Ev.neg (by omega) ?_
    unfold play
    rw [if_pos hp]
    exact ref_l1 n f d p r dr o s m fr t F L hp hF (3 * (f + 1)).toNat 0 _ (by omega) he
  | succ q ih =>
    intro i hi
    have hs : ((king_Play.first n bits).take i) ++ [king_Play.start (rd bits (i : Int))] = (king_Play.first n bits).take (i + 1) := by
      unfold king_Play.first
      exact take_map_succ (fun (k : Nat) => king_Play.start (rd bits (k : Int))) (by omega)
    have hl : ((king_Play.first n bits).take i).length < 8796093022208 := Nat.lt_of_le_of_lt (m := 13) (by rw [List.length_take]; omega) (by decide)
    have hst : ∀ a, bellwetherref14_Start.f a = some ((king_Play.start a).f0, (king_Play.start a).f1) := fun a => by
      unfold bellwetherref14_Start.f king_Play.start
      split <;> rfl
    refine Ev.step (fun k => bellwetherref14_Play.l0.eq_2 ..) ?_
    refine Ev.pos (by omega) ?_
    by_cases hlt : (i : Int) < (bits.length : Int)
    · refine Ev.pos hlt (Ev.pos (by omega) (Ev.some_ (hst _) (Ev.pos hl ?_)))
      rw [succ_w (by omega)]
      show Ev (fun k => bellwetherref14_Play.l0 k bits F L ((king_Play.first n bits).take i ++ [king_Play.start (rd bits (i : Int))]) _ n f d p r dr o s m fr t) _
      rw [hs]
      exact ih (i + 1) (by omega)
    · have hz : rd bits (i : Int) = 0 := by simp [rd, List.getD_eq_getElem?_getD, show bits.length ≤ i by omega]
      rw [hz] at hs
      refine Ev.neg hlt (Ev.some_ (hst _) (Ev.pos hl ?_))
      rw [succ_w (by omega)]
      show Ev (fun k => bellwetherref14_Play.l0 k bits F L ((king_Play.first n bits).take i ++ [king_Play.start 0]) _ n f d p r dr o s m fr t) _
      rw [hs]
      exact ih (i + 1) (by omega)
theorem ref_play_ev (hF : F.length ≤ 1000000) (bits : List Int) : Ev (fun k => bellwetherref14_Play.f k n f d p r dr o s m fr t bits F L) (play n f d p r dr o s m fr t F L bits) := by
  refine Ev.congr (fun k => bellwetherref14_Play.f.eq_1 ..) ?_
  refine Ev.bind (Ev.from 700 (fun k hk => ref_plain_at n f d p r dr o s m fr t hk)) ?_
  by_cases hp : plain n f d p r dr o s m fr t = 0
  · refine Ev.pos hp ?_
    exact ref_l0 n f d p r dr o s m fr t F L hp hF bits n.toNat 0 (by omega)
  · refine Ev.neg hp (Ev.val ?_)
    unfold play
    rw [if_neg hp]
end
theorem ints_same (l : List Int) (hl : l.length ≤ 1000000) : Ev (fun k => bellwetherref06_Ints.f k l l) true := by
  refine Ev.congr (fun k => bellwetherref06_Ints.f.eq_1 ..) ?_
  refine Ev.pos rfl ?_
  have key : ∀ (q i : Nat), i + q = l.length → Ev (fun k => bellwetherref06_Ints.l0 k l l (i : Int)) true := by
    intro q
    induction q with
    | zero =>
      intro i hi
      refine Ev.step (fun k => bellwetherref06_Ints.l0.eq_2 ..) ?_
      exact Ev.neg (by omega) (Ev.val rfl)
    | succ q ih =>
      intro i hi
      refine Ev.step (fun k => bellwetherref06_Ints.l0.eq_2 ..) ?_
      refine Ev.pos (by omega) (Ev.pos (by omega) (Ev.pos (by omega) (Ev.pos rfl ?_)))
      rw [ConfLib.wrap_small (by omega) (by omega), show ((i : Int) + 1) = ((i + 1 : Nat) : Int) by omega]
      exact ih (i + 1) (by omega)
  exact key l.length 0 (by omega)
end Go.Proofs.Ytfannnojhkkaiaa.KingLib
