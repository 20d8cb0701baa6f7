import Derived.Test.YthblnnboeikgcaaYAgreeSteps50
import Derived.Test.YthblnnboeikgcaaYAgreeSteps52
import Derived.Test.YthblnnboeikgcaaYAgreeSteps20
import Derived.Test.YthblnnboeikgcaaYAgreeSteps18
import Derived.Test.YthblnnboeikgcaaYAgreeSteps31
import Derived.Test.YthblnnboeikgcaaYAgreeSteps35
import Derived.Test.YthblnnboeikgcaaYAgreeSteps34
import Derived.Test.YthblnnboeikgcaaYAgreeSteps40
set_option linter.unusedVariables false
set_option linter.unusedSimpArgs false
set_option linter.unusedSectionVars false
namespace Go.Proofs.Ythblnnboeikgcaa.AgreeLib
open Go.RowKit Go.Proofs.Ythblnnboeikgcaa.X Go.Proofs.YthblnnboeikgcaaW.PrintWords Go.Proofs.YthblnnboeikgcaaW.PrintMore Go.Proofs.Ythblnnboeikgcaa.ConfLib Go.Proofs.Ythblnnboeikgcaa.TallyLib Go.Proofs.Ythblnnboeikgcaa.KingLib Go.Proofs.Ythblnnboeikgcaa.VecLib Go.Proofs.Ythblnnboeikgcaa.PlanLib
abbrev Packet := S85
abbrev rdP := rd_T85
theorem set_new {α : Type} (A : List α) (q i : Nat) (z v : α) (h : A.length = i) : (A ++ List.replicate (q + 1) z).set i v = (A ++ [v]) ++ List.replicate q z := by
  subst h
  rw [List.set_append_right _ _ (Nat.le_refl _), List.replicate_succ, Nat.sub_self, List.set_cons_zero, List.append_assoc]
  rfl
section
variable (n f d p r dr o s m fr : Int) (t : List Int)
def vote_ (x : Int) (q : Packet) : ByteArray := if q.f1 = x + 1 then q.f2 else (⟨#[]⟩ : ByteArray)
def votes (x : Int) (l : List Packet) : List ByteArray := l.map (vote_ x)
theorem votes_len (x : Int) (l : List Packet) : (votes x l).length = l.length := by simp [votes]
theorem votes_next (x : Int) (l : List Packet) {i : Nat} (hi : i < l.length) : (votes x l).take i ++ [vote_ x (rdP l (i : Int))] = (votes x l).take (i + 1) := by
  rw [List.take_succ_eq_append_getElem (by rw [votes_len]; exact hi)]
  simp [votes, rd_T85, List.getD_eq_getElem?_getD, hi]
def boss (x : Int) (V : List ByteArray) : ByteArray := if king n f d p r dr o s m fr t x < (V.length : Int) then rdOf ByteArray.empty V (king n f d p r dr o s m fr t x) else (⟨#[]⟩ : ByteArray)
theorem king_ge {x : Int} (h : 0 ≤ x) (h2 : x < ConfLib.rounds n f d p r dr o s m fr t) : 0 ≤ king n f d p r dr o s m fr t x := by
  unfold king
  rw [if_neg (by omega)]
  omega
theorem heard_ev (x : Int) (h0 : 0 ≤ x) (h1 : x ≤ 100) (h2 : x < ConfLib.rounds n f d p r dr o s m fr t) (l : List Packet) (hl : l.length ≤ 1000) : Ev (fun k => agree_heard.f k n f d p r dr o s m fr t x l) (boss n f d p r dr o s m fr t x (votes x l), votes x l) := by
  have hv := votes_len x l
  have key : ∀ (q i : Nat), i + q = l.length → Ev (fun k => agree_heard.l0 k x (⟨#[]⟩ : ByteArray) ((votes x l).take i ++ List.replicate q (⟨#[]⟩ : ByteArray)) l (l.length : Int) (i : Int) n f d p r dr o s m fr t) (boss n f d p r dr o s m fr t x (votes x l), votes x l) := by
    intro q
    induction q with
    | zero =>
      intro i hi
      refine Ev.step (fun k => agree_heard.l0.eq_2 ..) (Ev.neg (by omega) (Ev.bind (Ev.from 10 (fun k hk => king_at n f d p r dr o s m fr t x hk)) ?_))
      rw [List.take_of_length_le (by omega), List.replicate_zero, List.append_nil]
      unfold boss
      by_cases d1 : king n f d p r dr o s m fr t x < ((votes x l).length : Int)
      · refine Ev.pos d1 (Ev.pos (king_ge n f d p r dr o s m fr t h0 h2) (Ev.val ?_))
        rw [if_pos d1]
      · refine Ev.neg d1 (Ev.val ?_)
        rw [if_neg d1]
    | succ q ih =>
      intro i hi
      have hA : ((votes x l).take i).length = i := by rw [List.length_take]; omega
      have hg := votes_next x l (i := i) (by omega)
      have go := ih (i + 1) (by omega)
      rw [← hg, ← succ_w (by omega)] at go
      refine Ev.step (fun k => agree_heard.l0.eq_2 ..) (Ev.pos (by omega) (Ev.pos (by omega) (Ev.pos (by omega) ?_)))
      rw [ConfLib.wrap_small (n := x + 1) (by omega) (by omega)]
      by_cases d1 : (rdP l (i : Int)).f1 = x + 1
      · refine Ev.pos d1 (Ev.pos (by rw [List.length_append, hA, List.length_replicate]; omega) ?_)
        rw [Int.toNat_natCast, set_new _ _ _ _ _ hA]
        rw [show vote_ x (rdP l (i : Int)) = (rdP l (i : Int)).f2 from if_pos d1] at go
        exact go
      · refine Ev.neg d1 ?_
        rw [show vote_ x (rdP l (i : Int)) = (⟨#[]⟩ : ByteArray) from if_neg d1] at go
        rw [List.append_assoc] at go
        exact go
  refine Ev.congr (fun k => agree_heard.f.eq_1 ..) (Ev.pos (by omega) (Ev.pos (by omega) ?_))
  rw [Int.toNat_natCast]
  exact key l.length 0 (by omega)
def codes2 (x : Int) (codes : ByteArray) (l : List Packet) : ByteArray := if 0 ≤ x then txt (stepD n f d p r dr o s m fr t x codes (boss n f d p r dr o s m fr t x (votes x l)) (votes x l)) else codes
def stepA (age : Int) (codes agreed : ByteArray) (l : List Packet) : Int × ByteArray × ByteArray :=
  if plain n f d p r dr o s m fr t = 0 then
    if codes.toList = [] then (age, (⟨#[]⟩ : ByteArray), agreed) else
    if sat age (ConfLib.length n f d p r dr o s m fr t) < ConfLib.length n f d p r dr o s m fr t then (sat age (ConfLib.length n f d p r dr o s m fr t), codes2 n f d p r dr o s m fr t (hears n f d p r dr o s m fr t (sat age (ConfLib.length n f d p r dr o s m fr t))) codes l, agreed)
    else (sat age (ConfLib.length n f d p r dr o s m fr t), (⟨#[]⟩ : ByteArray), txt (vec_Values.digits (codes2 n f d p r dr o s m fr t (hears n f d p r dr o s m fr t (sat age (ConfLib.length n f d p r dr o s m fr t))) codes l)))
  else (0, (⟨#[]⟩ : ByteArray), (⟨#[]⟩ : ByteArray))
theorem length_range (hp : plain n f d p r dr o s m fr t = 0) : 0 ≤ ConfLib.length n f d p r dr o s m fr t ∧ ConfLib.length n f d p r dr o s m fr t ≤ 60 := by
  have hb := plain_facts hp
  have hm := mul_small (x := 3 * (f + 1)) (d := d) (by omega) (by omega) (by omega)
  unfold ConfLib.length
  rw [if_pos hp]
  have hm2 := mul_small (x := 3 * (f + 1)) (d := d) (by omega) (by omega) (by omega)
  refine ⟨hm2.1, ?_⟩
  have : 3 * (f + 1) * d ≤ 15 * 4 := Int.mul_le_mul (by omega) (by omega) (by omega) (by omega)
  omega
theorem sat_range {a q : Int} (h : 0 ≤ q) : 0 ≤ sat a q ∧ sat a q ≤ q := by
  unfold sat
  by_cases h1 : a < 0 ∨ q < 0
  · rw [if_pos h1]; omega
  · rw [if_neg h1]
    by_cases h2 : a ≥ q
    · rw [if_pos h2]; omega
    · rw [if_neg h2]; omega
theorem codes2_size (x : Int) (codes : ByteArray) (l : List Packet) : (codes2 n f d p r dr o s m fr t x codes l).size = codes.size := by
  unfold codes2
  split
  · rw [txt_size, stepD_len]
  · rfl
theorem empty_of {z : ByteArray} (h : z.toList = []) : z = (⟨#[]⟩ : ByteArray) := by
  refine Bytes.ext_iff.1 ?_
  rw [h, ByteArray.toList_eq]
theorem step_ev (age : Int) (codes agreed : ByteArray) (hc : codes.size ≤ 1000) (l : List Packet) (hl : l.length ≤ 1000) : Ev (fun k => agree_Step.f k n f d p r dr o s m fr t age codes agreed l) (stepA n f d p r dr o s m fr t age codes agreed l) := by
  refine Ev.congr (fun k => agree_Step.f.eq_1 ..) (Ev.bind (Ev.from 10 (fun k hk => plain_at n f d p r dr o s m fr t hk)) ?_)
  unfold stepA
  by_cases hp : plain n f d p r dr o s m fr t = 0
  · have hb := plain_facts hp
    have hlen := length_range n f d p r dr o s m fr t hp
    refine Ev.pos hp ?_
    rw [if_pos hp]
    by_cases h1 : codes.toList = []
    · exact Ev.pos h1 (Ev.val (by rw [if_pos h1]))
    refine Ev.neg h1 (Ev.bind (Ev.from 10 (fun k hk => length_at n f d p r dr o s m fr t hk)) (Ev.bind (Ev.from 10 (fun k hk => sat_at _ _ (by omega) (by omega))) ?_))
    rw [if_neg h1]
    have hs := sat_range (a := age) hlen.1
    generalize sat age (ConfLib.length n f d p r dr o s m fr t) = a at hs ⊢
    refine Ev.bind (Ev.from 10 (fun k hk => hears_at n f d p r dr o s m fr t a (WalkArith.wf_i64 (by omega)) hk)) ?_
    have hh := hears_range n f d p r dr o s m fr t a
    have fin : ∀ c2 : ByteArray, c2.size ≤ 1000 → Ev (fun k => agree_Step.j0 k a c2 agreed n f d p r dr o s m fr t) (if a < ConfLib.length n f d p r dr o s m fr t then (a, c2, agreed) else (a, (⟨#[]⟩ : ByteArray), txt (vec_Values.digits c2))) := by
      intro c2 hc2
      refine Ev.step (fun k => agree_Step.j0.eq_2 ..) (Ev.bind (Ev.from 10 (fun k hk => length_at n f d p r dr o s m fr t hk)) ?_)
      by_cases d1 : a < ConfLib.length n f d p r dr o s m fr t
      · exact Ev.pos d1 (Ev.val (by rw [if_pos d1]))
      · exact Ev.neg d1 (Ev.some_ (values_at c2 (by omega)) (Ev.val (by rw [if_neg d1])))
    have hz := codes2_size n f d p r dr o s m fr t (hears n f d p r dr o s m fr t a) codes l
    unfold codes2 at hz ⊢
    by_cases h2 : hears n f d p r dr o s m fr t a ≥ 0
    · have hx := hears_small hp h2
      refine Ev.pos h2 (Ev.bind (heard_ev n f d p r dr o s m fr t _ h2 (by omega) (by unfold ConfLib.rounds; rw [if_pos hp]; exact hx) l hl) ?_)
      refine Ev.bind (Ev.from 10 (fun k hk => vstep_at n f d p r dr o s m fr t _ codes _ _ (by omega) (by show (votes _ l).length ≤ 1000000; rw [votes_len]; omega) hk)) ?_
      rw [if_pos h2] at hz ⊢
      have g := fin _ (show (txt (stepD n f d p r dr o s m fr t (hears n f d p r dr o s m fr t a) codes (boss n f d p r dr o s m fr t (hears n f d p r dr o s m fr t a) (votes (hears n f d p r dr o s m fr t a) l)) (votes (hears n f d p r dr o s m fr t a) l))).size ≤ 1000 by omega)
      exact g
    · refine Ev.neg h2 ?_
      rw [if_neg h2]
      exact fin _ hc
  · exact Ev.neg hp (Ev.val (by rw [if_neg hp]))
end
section
variable (n f d p r dr o s m fr : Int) (t : List Int)
theorem ref_votes_ev (x : Int) (h0 : 0 ≤ x) (h1 : x ≤ 100) (l : List Packet) (hl : l.length ≤ 1000) : Ev (fun k => bellwetherref19_votes.f k x l) (votes x l) := by
  have hv := votes_len x l
  have key : ∀ (q i : Nat), i + q = l.length → Ev (fun k => bellwetherref19_votes.l0 k x l ((votes x l).take i) (i : Int)) (votes x l) := by
    intro q
    induction q with
    | zero =>
      intro i hi
      refine Ev.step (fun k => bellwetherref19_votes.l0.eq_2 ..) (Ev.neg (by omega) (Ev.val ?_))
      rw [List.take_of_length_le (by omega)]
    | succ q ih =>
      intro i hi
      have hg := votes_next x l (i := i) (by omega)
      have go := ih (i + 1) (by omega)
      rw [← hg, ← succ_w (by omega)] at go
      have hr : ((votes x l).take i).length < 8796093022208 := Nat.lt_of_le_of_lt (m := 1000) (by rw [List.length_take]; omega) (by decide)
      refine Ev.step (fun k => bellwetherref19_votes.l0.eq_2 ..) (Ev.pos (by omega) (Ev.pos (by omega) ?_))
      rw [ConfLib.wrap_small (n := x + 1) (by omega) (by omega)]
      by_cases d1 : (rdP l (i : Int)).f1 = x + 1
      · rw [show vote_ x (rdP l (i : Int)) = (rdP l (i : Int)).f2 from if_pos d1] at go
        exact Ev.pos d1 (Ev.pos hr go)
      · rw [show vote_ x (rdP l (i : Int)) = (⟨#[]⟩ : ByteArray) from if_neg d1] at go
        exact Ev.neg d1 (Ev.pos hr go)
  refine Ev.congr (fun k => bellwetherref19_votes.f.eq_1 ..) ?_
  exact key l.length 0 (by omega)
theorem ref_step_ev (age : Int) (codes agreed : ByteArray) (hc : codes.size ≤ 1000) (l : List Packet) (hl : l.length ≤ 1000) : Ev (fun k => bellwetherref19_Step.f k n f d p r dr o s m fr t age codes agreed l) (stepA n f d p r dr o s m fr t age codes agreed l) := by
  refine Ev.congr (fun k => bellwetherref19_Step.f.eq_1 ..) (Ev.bind (Ev.from 700 (fun k hk => ref_plain_at n f d p r dr o s m fr t hk)) ?_)
  unfold stepA
  by_cases hp : plain n f d p r dr o s m fr t = 0
  · have hb := plain_facts hp
    have hlen := length_range n f d p r dr o s m fr t hp
    refine Ev.pos hp ?_
    rw [if_pos hp]
    by_cases h1 : codes.toList = []
    · refine Ev.pos h1 (Ev.val ?_)
      rw [if_pos h1, empty_of h1]
    refine Ev.neg h1 (Ev.bind (Ev.from 700 (fun k hk => ref_length_at n f d p r dr o s m fr t hk)) (Ev.bind (Ev.from 10 (fun k hk => PlanLib.ref_sat_at _ _ (by omega) hk)) ?_))
    rw [if_neg h1]
    have hs := sat_range (a := age) hlen.1
    generalize sat age (ConfLib.length n f d p r dr o s m fr t) = a at hs ⊢
    refine Ev.bind (Ev.from 1000 (fun k hk => ref_hears_at n f d p r dr o s m fr t a hk)) ?_
    have hh := hears_range n f d p r dr o s m fr t a
    have fin : ∀ c2 : ByteArray, c2.size ≤ 1000 → Ev (fun k => bellwetherref19_Step.j0 k c2 agreed a n f d p r dr o s m fr t) (if a < ConfLib.length n f d p r dr o s m fr t then (a, c2, agreed) else (a, (⟨#[]⟩ : ByteArray), txt (vec_Values.digits c2))) := by
      intro c2 hc2
      refine Ev.step (fun k => bellwetherref19_Step.j0.eq_2 ..) (Ev.bind (Ev.from 700 (fun k hk => ref_length_at n f d p r dr o s m fr t hk)) ?_)
      by_cases d1 : a < ConfLib.length n f d p r dr o s m fr t
      · exact Ev.neg (by omega) (Ev.val (by rw [if_pos d1]))
      · exact Ev.pos (by omega) (Ev.bind (ref_values_ev c2 hc2) (Ev.val (by rw [if_neg d1])))
    have hz := codes2_size n f d p r dr o s m fr t (hears n f d p r dr o s m fr t a) codes l
    unfold codes2 at hz ⊢
    by_cases h2 : hears n f d p r dr o s m fr t a ≥ 0
    · have hx := hears_small hp h2
      have hkg := king_ge n f d p r dr o s m fr t h2 (by unfold ConfLib.rounds; rw [if_pos hp]; exact hx)
      refine Ev.pos h2 (Ev.bind (ref_votes_ev _ h2 (by omega) l hl) (Ev.bind (Ev.from 1000 (fun k hk => ref_king_at n f d p r dr o s m fr t _ hk)) ?_))
      rw [if_pos h2] at hz ⊢
      have hvl := votes_len (hears n f d p r dr o s m fr t a) l
      unfold boss at hz ⊢
      by_cases d3 : king n f d p r dr o s m fr t (hears n f d p r dr o s m fr t a) < ((votes (hears n f d p r dr o s m fr t a) l).length : Int)
      · rw [if_pos d3] at hz ⊢
        refine Ev.pos d3 (Ev.bind (Ev.from 1000 (fun k hk => ref_king_at n f d p r dr o s m fr t _ hk)) (Ev.pos hkg (Ev.pos d3 ?_)))
        exact Ev.bind (ref_vstep_ev n f d p r dr o s m fr t _ codes _ _ hc (by omega)) (fin _ (by omega))
      · rw [if_neg d3] at hz ⊢
        refine Ev.neg d3 ?_
        exact Ev.bind (ref_vstep_ev n f d p r dr o s m fr t _ codes _ _ hc (by omega)) (fin _ (by omega))
    · refine Ev.neg h2 ?_
      rw [if_neg h2]
      exact fin _ hc
  · exact Ev.neg hp (Ev.val (by rw [if_neg hp]))
end
end Go.Proofs.Ythblnnboeikgcaa.AgreeLib
