import Derived.Test.YthblnnboeikgcaaYAgreeTogether48
import Derived.Test.YthblnnboeikgcaaYAgreeTogether49
set_option linter.unusedVariables false
set_option linter.unusedSimpArgs false
set_option linter.unusedSectionVars false
namespace Go.Proofs.Ythblnnboeikgcaa.AgreeLib
open Go.RowKit Go.Proofs.Ythblnnboeikgcaa.X Go.Proofs.YthblnnboeikgcaaW.PrintWords Go.Proofs.YthblnnboeikgcaaW.PrintMore Go.Proofs.Ythblnnboeikgcaa.ConfLib Go.Proofs.Ythblnnboeikgcaa.TallyLib Go.Proofs.Ythblnnboeikgcaa.KingLib Go.Proofs.Ythblnnboeikgcaa.VecLib Go.Proofs.Ythblnnboeikgcaa.PlanLib
abbrev Packet := S85
abbrev rdP := rd_T85
def sd (s : ByteArray) (j : Nat) : Int := if j < s.size ∧ bt s (j : Int) = 49 then 1 else 0
theorem sd_bin (s : ByteArray) (j : Nat) : 0 ≤ sd s j ∧ sd s j ≤ 1 := by unfold sd; split <;> omega
def seenD (s : ByteArray) (n : Nat) : List Int := (List.range n).map (sd s)
theorem seenD_len (s : ByteArray) (n : Nat) : (seenD s n).length = n := by simp [seenD]
theorem seenD_get (s : ByteArray) {n j : Nat} (hj : j < n) : (seenD s n).getD j 0 = sd s j := KW.getD_range _ 0 hj
theorem set_new {α : Type} (A : List α) (q i : Nat) (z v : α) (h : A.length = i) : (A ++ List.replicate (q + 1) z).set i v = (A ++ [v]) ++ List.replicate q z := by
  subst h
  rw [List.set_append_right _ _ (Nat.le_refl _), List.replicate_succ, Nat.sub_self, List.set_cons_zero, List.append_assoc]
  rfl
theorem set_again {α : Type} (A R : List α) (i : Nat) (y v : α) (h : A.length = i) : ((A ++ [y]) ++ R).set i v = (A ++ [v]) ++ R := by
  subst h
  rw [List.append_assoc, List.set_append_right _ _ (Nat.le_refl _), Nat.sub_self, List.append_assoc]
  rfl
theorem seen_ev (s : ByteArray) (n : Int) (hn : 0 ≤ n ∧ n ≤ 1000) : Ev (fun k => agree_seen.f k s n) (txt (seenD s n.toNat)) := by
  have hl := seenD_len s n.toNat
  have key : ∀ (q i : Nat), i + q = n.toNat → Ev (fun k => agree_seen.l0 k s (((seenD s n.toNat).take i).map (fun d => 48 + d) ++ List.replicate q 0) n (i : Int)) (txt (seenD s n.toNat)) := by
    intro q
    induction q with
    | zero =>
      intro i hi
      refine Ev.step (fun k => agree_seen.l0.eq_2 ..) (Ev.neg (by omega) (Ev.val ?_))
      rw [List.take_of_length_le (by omega), List.replicate_zero, List.append_nil]
      rfl
    | succ q ih =>
      intro i hi
      have hA : (((seenD s n.toNat).take i).map (fun d => 48 + d)).length = i := by rw [List.length_map, List.length_take]; omega
      have hg : (((seenD s n.toNat).take i).map (fun d => 48 + d)) ++ [48 + sd s i] = ((seenD s n.toNat).take (i + 1)).map (fun d => 48 + d) := by
        have := take_map_succ (sd s) (m := n.toNat) (j := i) (by omega)
        have h2 : (seenD s n.toNat).take i ++ [sd s i] = (seenD s n.toNat).take (i + 1) := this
        rw [← h2, List.map_append]
        rfl
      have go := ih (i + 1) (by omega)
      rw [← hg, ← succ_w (by omega)] at go
      refine Ev.step (fun k => agree_seen.l0.eq_2 ..) (Ev.pos (by omega) (Ev.pos (by omega) (Ev.pos (by rw [List.length_append, hA, List.length_replicate]; omega) (Ev.some_ rfl ?_))))
      rw [Int.toNat_natCast, set_new _ _ _ _ _ hA]
      by_cases d1 : (i : Int) < (s.size : Int)
      · refine Ev.pos d1 ?_
        by_cases d2 : bt s (i : Int) = 49
        · refine Ev.pos d2 ?_
          rw [set_again _ _ _ _ _ hA]
          rw [show (48 : Int) + sd s i = 49 by unfold sd; rw [if_pos ⟨by omega, d2⟩]; rfl] at go
          exact go
        · refine Ev.neg d2 ?_
          rw [show (48 : Int) + sd s i = 48 by unfold sd; rw [if_neg (fun h => d2 h.2)]; rfl] at go
          exact go
      · refine Ev.neg d1 ?_
        rw [show (48 : Int) + sd s i = 48 by unfold sd; rw [if_neg (fun h => d1 (by omega))]; rfl] at go
        exact go
  refine Ev.congr (fun k => agree_seen.f.eq_1 ..) (Ev.pos hn.1 (Ev.pos (by omega) (Ev.some_ rfl ?_)))
  rw [List.length_replicate]
  have := key n.toNat 0 (by omega)
  rw [show ((n.toNat : Nat) : Int) = n by omega]
  exact this
section
variable (n f d p r dr o s m fr : Int) (t : List Int)
def firstD (number : Int) (saw : ByteArray) : List Int := bitsD (max number 0) 8 ++ seenD saw n.toNat
theorem firstD_len (number : Int) (saw : ByteArray) : (firstD n number saw).length = 8 + n.toNat := by unfold firstD; rw [List.length_append, bitsD_len, seenD_len]
theorem firstD_bin (number : Int) (saw : ByteArray) : ∀ v ∈ firstD n number saw, 0 ≤ v ∧ v ≤ 1 := by
  intro v hv
  unfold firstD at hv
  rcases List.mem_append.1 hv with h | h
  · exact bitsD_bin _ _ v h
  · unfold seenD at h
    obtain ⟨j, _, rfl⟩ := List.mem_map.1 h
    exact sd_bin saw j
def begin_ (number : Int) (saw : ByteArray) : ByteArray := if plain n f d p r dr o s m fr t = 0 then txt (vec_Of.digits (txt (firstD n number saw))) else (⟨#[]⟩ : ByteArray)
theorem wide8 : wide 8 = 8 := by decide
theorem begin_ev (number : Int) (hx : number ≤ 9223372036854775807) (saw : ByteArray) : Ev (fun k => agree_Begin.f k n f d p r dr o s m fr t number saw) (begin_ n f d p r dr o s m fr t number saw) := by
  refine Ev.congr (fun k => agree_Begin.f.eq_1 ..) (Ev.bind (Ev.from 10 (fun k hk => plain_at n f d p r dr o s m fr t hk)) ?_)
  unfold begin_
  by_cases hp : plain n f d p r dr o s m fr t = 0
  · have hb := plain_facts hp
    have h1 : (txt (bitsD (max number 0) (wide 8))).size = 8 := by rw [txt_size, bitsD_len, wide8]
    have h2 : (txt (seenD saw n.toNat)).size = n.toNat := by rw [txt_size, seenD_len]
    refine Ev.pos hp (Ev.bind (bits_ev number 8 hx) (Ev.bind (seen_ev saw n (by omega)) (Ev.pos (by omega) (Ev.some_ (of_at _ (by rw [ByteArray.size_append]; omega)) (Ev.val ?_)))))
    rw [if_pos hp, ← txt_append, wide8]
    rfl
  · refine Ev.neg hp (Ev.val ?_)
    rw [if_neg hp]
def tell (age : Int) (codes : ByteArray) : Int × ByteArray := if tells n f d p r dr o s m fr t age < 0 ∨ codes.toList = [] then (0, (⟨#[]⟩ : ByteArray)) else (tells n f d p r dr o s m fr t age + 1, txt (vec_Values.digits codes))
theorem tell_ev (age : Int) (ha : (Lit.int .i64 age).wf = true) (codes : ByteArray) (hc : codes.size ≤ 1000) : Ev (fun k => agree_Tell.f k n f d p r dr o s m fr t age codes) (tell n f d p r dr o s m fr t age codes) := by
  have hr := tells_range n f d p r dr o s m fr t age
  refine Ev.congr (fun k => agree_Tell.f.eq_1 ..) (Ev.bind (Ev.from 10 (fun k hk => tells_at n f d p r dr o s m fr t age ha hk)) ?_)
  unfold tell
  by_cases h1 : tells n f d p r dr o s m fr t age < 0
  · exact Ev.pos h1 (Ev.val (by rw [if_pos (.inl h1)]))
  · refine Ev.neg h1 ?_
    by_cases h2 : codes.toList = []
    · exact Ev.pos h2 (Ev.val (by rw [if_pos (.inr h2)]))
    · refine Ev.neg h2 (Ev.some_ (values_at codes (by omega)) (Ev.val ?_))
      rw [if_neg (fun h => h.elim h1 h2), ConfLib.wrap_small (by omega) (by omega)]
def vote_ (x : Int) (q : Packet) : ByteArray := if q.f1 = x + 1 then q.f2 else (⟨#[]⟩ : ByteArray)
def votes (x : Int) (l : List Packet) : List ByteArray := l.map (vote_ x)
theorem votes_len (x : Int) (l : List Packet) : (votes x l).length = l.length := by simp [votes]
theorem votes_next (x : Int) (l : List Packet) {i : Nat} (hi : i < l.length) : (votes x l).take i ++ [vote_ x (rdP l (i : Int))] = (votes x l).take (i + 1) := by
  rw [List.take_succ_eq_append_getElem (by rw [votes_len]; exact hi)]
  simp [votes, rd_T85, List.getD_eq_getElem?_getD, hi]
def boss (x : Int) (V : List ByteArray) : ByteArray := if king n f d p r dr o s m fr t x < (V.length : Int) then rdOf ByteArray.empty V (king n f d p r dr o s m fr t x) else (⟨#[]⟩ : ByteArray)
theorem king_ge {x : Int} (h : 0 ≤ x) (h2 : x < ConfLib.rounds n f d p r dr o s m fr t) : 0 ≤ king n f d p r dr o s m fr t x := by
  unfold king
  rw [if_neg (by omega)]
  omega
theorem heard_ev (x : Int) (h0 : 0 ≤ x) (h1 : x ≤ 100) (h2 : x < ConfLib.rounds n f d p r dr o s m fr t) (l : List Packet) (hl : l.length ≤ 1000) : Ev (fun k => agree_heard.f k n f d p r dr o s m fr t x l) (boss n f d p r dr o s m fr t x (votes x l), votes x l) := by
  have hv := votes_len x l
  have key : ∀ (q i : Nat), i + q = l.length → Ev (fun k => agree_heard.l0 k x (⟨#[]⟩ : ByteArray) ((votes x l).take i ++ List.replicate q (⟨#[]⟩ : ByteArray)) l (l.length : Int) (i : Int) n f d p r dr o s m fr t) (boss n f d p r dr o s m fr t x (votes x l), votes x l) := by
    intro q
    induction q with
    | zero =>
      intro i hi
      refine Ev.step (fun k => agree_heard.l0.eq_2 ..) (Ev.neg (by omega) (Ev.bind (Ev.from 10 (fun k hk => king_at n f d p r dr o s m fr t x hk)) ?_))
      rw [List.take_of_length_le (by omega), List.replicate_zero, List.append_nil]
      unfold boss
      by_cases d1 : king n f d p r dr o s m fr t x < ((votes x l).length : Int)
      · refine Ev.pos d1 (Ev.pos (king_ge n f d p r dr o s m fr t h0 h2) (Ev.val ?_))
        rw [if_pos d1]
      · refine Ev.neg d1 (Ev.val ?_)
        rw [if_neg d1]
    | succ q ih =>
      intro i hi
      have hA : ((votes x l).take i).length = i := by rw [List.length_take]; omega
      have hg := votes_next x l (i := i) (by omega)
      have go := ih (i + 1) (by omega)
      rw [← hg, ← succ_w (by omega)] at go
      refine Ev.step (fun k => agree_heard.l0.eq_2 ..) (Ev.pos (by omega) (Ev.pos (by omega) (Ev.pos (by omega) ?_)))
      rw [ConfLib.wrap_small (n := x + 1) (by omega) (by omega)]
      by_cases d1 : (rdP l (i : Int)).f1 = x + 1
      · refine Ev.pos d1 (Ev.pos (by rw [List.length_append, hA, List.length_replicate]; omega) ?_)
        rw [Int.toNat_natCast, set_new _ _ _ _ _ hA]
        rw [show vote_ x (rdP l (i : Int)) = (rdP l (i : Int)).f2 from if_pos d1] at go
        exact go
      · refine Ev.neg d1 ?_
        rw [show vote_ x (rdP l (i : Int)) = (⟨#[]⟩ : ByteArray) from if_neg d1] at go
        rw [List.append_assoc] at go
        exact go
  refine Ev.congr (fun k => agree_heard.f.eq_1 ..) (Ev.pos (by omega) (Ev.pos (by omega) ?_))
  rw [Int.toNat_natCast]
  exact key l.length 0 (by omega)
def codes2 (x : Int) (codes : ByteArray) (l : List Packet) : ByteArray := if 0 ≤ x then txt (stepD n f d p r dr o s m fr t x codes (boss n f d p r dr o s m fr t x (votes x l)) (votes x l)) else codes
def stepA (age : Int) (codes agreed : ByteArray) (l : List Packet) : Int × ByteArray × ByteArray :=
  if plain n f d p r dr o s m fr t = 0 then
    if codes.toList = [] then (age, (⟨#[]⟩ : ByteArray), agreed) else
    if sat age (ConfLib.length n f d p r dr o s m fr t) < ConfLib.length n f d p r dr o s m fr t then (sat age (ConfLib.length n f d p r dr o s m fr t), codes2 n f d p r dr o s m fr t (hears n f d p r dr o s m fr t (sat age (ConfLib.length n f d p r dr o s m fr t))) codes l, agreed)
    else (sat age (ConfLib.length n f d p r dr o s m fr t), (⟨#[]⟩ : ByteArray), txt (vec_Values.digits (codes2 n f d p r dr o s m fr t (hears n f d p r dr o s m fr t (sat age (ConfLib.length n f d p r dr o s m fr t))) codes l)))
  else (0, (⟨#[]⟩ : ByteArray), (⟨#[]⟩ : ByteArray))
theorem length_range (hp : plain n f d p r dr o s m fr t = 0) : 0 ≤ ConfLib.length n f d p r dr o s m fr t ∧ ConfLib.length n f d p r dr o s m fr t ≤ 60 := by
  have hb := plain_facts hp
  have hm := mul_small (x := 3 * (f + 1)) (d := d) (by omega) (by omega) (by omega)
  unfold ConfLib.length
  rw [if_pos hp]
  have hm2 := mul_small (x := 3 * (f + 1)) (d := d) (by omega) (by omega) (by omega)
  refine ⟨hm2.1, ?_⟩
  have : 3 * (f + 1) * d ≤ 15 * 4 := Int.mul_le_mul (by omega) (by omega) (by omega) (by omega)
  omega
theorem sat_range {a q : Int} (h : 0 ≤ q) : 0 ≤ sat a q ∧ sat a q ≤ q := by
  unfold sat
  by_cases h1 : a < 0 ∨ q < 0
  · rw [if_pos h1]; omega
  · rw [if_neg h1]
    by_cases h2 : a ≥ q
    · rw [if_pos h2]; omega
    · rw [if_neg h2]; omega
theorem codes2_size (x : Int) (codes : ByteArray) (l : List Packet) : (codes2 n f d p r dr o s m fr t x codes l).size = codes.size := by
  unfold codes2
  split
  · rw [txt_size, stepD_len]
  · rfl
theorem empty_of {z : ByteArray} (h : z.toList = []) : z = (⟨#[]⟩ : ByteArray) := by
  refine Bytes.ext_iff.1 ?_
  rw [h, ByteArray.toList_eq]
theorem step_ev (age : Int) (codes agreed : ByteArray) (hc : codes.size ≤ 1000) (l : List Packet) (hl : l.length ≤ 1000) : Ev (fun k => agree_Step.f k n f d p r dr o s m fr t age codes agreed l) (stepA n f d p r dr o s m fr t age codes agreed l) := by
  refine Ev.congr (fun k => agree_Step.f.eq_1 ..) (Ev.bind (Ev.from 10 (fun k hk => plain_at n f d p r dr o s m fr t hk)) ?_)
  unfold stepA
  by_cases hp : plain n f d p r dr o s m fr t = 0
  · have hb := plain_facts hp
    have hlen := length_range n f d p r dr o s m fr t hp
    refine Ev.pos hp ?_
    rw [if_pos hp]
    by_cases h1 : codes.toList = []
    · exact Ev.pos h1 (Ev.val (by rw [if_pos h1]))
    refine Ev.neg h1 (Ev.bind (Ev.from 10 (fun k hk => length_at n f d p r dr o s m fr t hk)) (Ev.bind (Ev.from 10 (fun k hk => sat_at _ _ (by omega) (by omega))) ?_))
    rw [if_neg h1]
    have hs := sat_range (a := age) hlen.1
    generalize sat age (ConfLib.length n f d p r dr o s m fr t) = a at hs ⊢
    refine Ev.bind (Ev.from 10 (fun k hk => hears_at n f d p r dr o s m fr t a (WalkArith.wf_i64 (by omega)) hk)) ?_
    have hh := hears_range n f d p r dr o s m fr t a
    have fin : ∀ c2 : ByteArray, c2.size ≤ 1000 → Ev (fun k => agree_Step.j0 k a c2 agreed n f d p r dr o s m fr t) (if a < ConfLib.length n f d p r dr o s m fr t then (a, c2, agreed) else (a, (⟨#[]⟩ : ByteArray), txt (vec_Values.digits c2))) := by
      intro c2 hc2
      refine Ev.step (fun k => agree_Step.j0.eq_2 ..) (Ev.bind (Ev.from 10 (fun k hk => length_at n f d p r dr o s m fr t hk)) ?_)
      by_cases d1 : a < ConfLib.length n f d p r dr o s m fr t
      · exact Ev.pos d1 (Ev.val (by rw [if_pos d1]))
      · exact Ev.neg d1 (Ev.some_ (values_at c2 (by omega)) (Ev.val (by rw [if_neg d1])))
    have hz := codes2_size n f d p r dr o s m fr t (hears n f d p r dr o s m fr t a) codes l
    unfold codes2 at hz ⊢
    by_cases h2 : hears n f d p r dr o s m fr t a ≥ 0
    · have hx := hears_small hp h2
      refine Ev.pos h2 (Ev.bind (heard_ev n f d p r dr o s m fr t _ h2 (by omega) (by unfold ConfLib.rounds; rw [if_pos hp]; exact hx) l hl) ?_)
      refine Ev.bind (Ev.from 10 (fun k hk => vstep_at n f d p r dr o s m fr t _ codes _ _ (by omega) (by show (votes _ l).length ≤ 1000000; rw [votes_len]; omega) hk)) ?_
      rw [if_pos h2] at hz ⊢
      have g := fin _ (show (txt (stepD n f d p r dr o s m fr t (hears n f d p r dr o s m fr t a) codes (boss n f d p r dr o s m fr t (hears n f d p r dr o s m fr t a) (votes (hears n f d p r dr o s m fr t a) l)) (votes (hears n f d p r dr o s m fr t a) l))).size ≤ 1000 by omega)
      exact g
    · refine Ev.neg h2 ?_
      rw [if_neg h2]
      exact fin _ hc
  · exact Ev.neg hp (Ev.val (by rw [if_neg hp]))
end
theorem digits_ev (z : ByteArray) (n : Int) (hn : 0 ≤ n ∧ n ≤ 1000) : Ev (fun k => r19Digits.f k z 0 n) (txt (seenD z n.toNat)) := by
  have hl := seenD_len z n.toNat
  have key : ∀ (q i : Nat), i + q = n.toNat → Ev (fun k => r19Digits.l0 k z 0 n (txt ((seenD z n.toNat).take i)) (i : Int)) (txt (seenD z n.toNat)) := by
    intro q
    induction q with
    | zero =>
      intro i hi
      refine Ev.step (fun k => r19Digits.l0.eq_2 ..) ?_
      rw [ConfLib.wrap_small (n := 0 + n) (by omega) (by omega)]
      refine Ev.neg (by omega) (Ev.val ?_)
      rw [List.take_of_length_le (by omega)]
    | succ q ih =>
      intro i hi
      have hg : (seenD z n.toNat).take i ++ [sd z i] = (seenD z n.toNat).take (i + 1) := take_map_succ (sd z) (m := n.toNat) (j := i) (by omega)
      have go := ih (i + 1) (by omega)
      rw [← txt_grow hg, ← succ_w (by omega)] at go
      have hr : (txt ((seenD z n.toNat).take i)).size + 1 ≤ 9223372036854775807 := by
        rw [txt_size, List.length_take]
        omega
      have t1 : txt [1] = (⟨#[49]⟩ : ByteArray) := by decide
      have t0 : txt [0] = (⟨#[48]⟩ : ByteArray) := by decide
      refine Ev.step (fun k => r19Digits.l0.eq_2 ..) ?_
      rw [ConfLib.wrap_small (n := 0 + n) (by omega) (by omega)]
      refine Ev.pos (by omega) ?_
      by_cases d1 : (i : Int) < (z.size : Int)
      · refine Ev.pos d1 (Ev.pos (by omega) ?_)
        by_cases d2 : bt z (i : Int) = 49
        · rw [show sd z i = 1 by unfold sd; rw [if_pos ⟨by omega, d2⟩], t1] at go
          exact Ev.pos d2 (Ev.pos hr go)
        · rw [show sd z i = 0 by unfold sd; rw [if_neg (fun h => d2 h.2)], t0] at go
          exact Ev.neg d2 (Ev.pos hr go)
      · rw [show sd z i = 0 by unfold sd; rw [if_neg (fun h => d1 (by omega))], t0] at go
        exact Ev.neg d1 (Ev.pos hr go)
  refine Ev.congr (fun k => r19Digits.f.eq_1 ..) ?_
  exact key n.toNat 0 (by omega)
section
variable (n f d p r dr o s m fr : Int) (t : List Int)
end
end Go.Proofs.Ythblnnboeikgcaa.AgreeLib
