import Derived.Test.YthblnnboeikgcaaYPipeTells49
section
set_option linter.unusedVariables false
set_option linter.unusedSimpArgs false
set_option linter.unusedSectionVars false
namespace Go.Proofs.Ythblnnboeikgcaa.PipeLib
open Go.RowKit Go.Proofs.Ythblnnboeikgcaa.P Go.Proofs.YthblnnboeikgcaaW.PrintWords Go.Proofs.YthblnnboeikgcaaW.PrintMore Go.Proofs.Ythblnnboeikgcaa.ConfLib Go.Proofs.Ythblnnboeikgcaa.TallyLib Go.Proofs.Ythblnnboeikgcaa.KingLib Go.Proofs.Ythblnnboeikgcaa.VecLib
theorem nums_bt {xs : List Int} {i : Nat} (hi : i < xs.length) (h0 : 0 ≤ xs.getD i 0) (h1 : xs.getD i 0 ≤ 255) : bt (strOfNums xs) (i : Int) = xs.getD i 0 := by
  have e : xs.getD i 0 = xs[i] := by simp [List.getD_eq_getElem?_getD, hi]
  have hs : (strOfNums xs).size = xs.length := by rw [Bytes.size_list]; simp [strOfNums]
  rw [Bytes.bt_nat _ _ (by rw [hs]; exact hi)]
  have : (strOfNums xs).data.toList = xs.map (fun z => UInt8.ofNat z.toNat) := by simp [strOfNums]
  simp only [this, List.getElem_map]
  rw [e] at h0 h1 ⊢
  rw [UInt8.toNat_ofNat']
  omega
section
variable (n f d p r dr o s m fr : Int) (t : List Int)
theorem well_self {a : ByteArray} (h : (a.size : Int) = ConfLib.length n f d p r dr o s m fr t) : well n f d p r dr o s m fr t a = a := by unfold well; rw [if_pos h]
theorem first_get (hp : plain n f d p r dr o s m fr t = 0) (VS : List ByteArray) (S : ByteArray) (hS : (S.size : Int) = ConfLib.length n f d p r dr o s m fr t) : (pipe_Move.all n f d p r dr o s m fr t VS S).getD 0 0 = 48 := by
  have hf := plain_facts hp
  have hr : ConfLib.rounds n f d p r dr o s m fr t = 3 * (f + 1) := by unfold ConfLib.rounds; rw [if_pos hp]
  have hle : ConfLib.length n f d p r dr o s m fr t = 3 * (f + 1) * d := by unfold ConfLib.length; rw [if_pos hp]
  have hlf := length_facts n f d p r dr o s m fr t
  refine ((run_get n f d p r dr o s m fr t (by omega) VS S _ (fun j hj => ?_)).1 0 (fun j hj e => ?_)).trans (L0_zero S)
  · have h1 : ((j : Int) + 1) * d ≤ 3 * (f + 1) * d := Int.mul_le_mul_of_nonneg_right (by omega) (by omega)
    have h2 : ((j : Int) + 1) * d = (j : Int) * d + d := by rw [Int.add_mul, Int.one_mul]
    unfold pipe_Move.ix
    omega
  · have h3 : 0 ≤ (j : Int) * d := Int.mul_nonneg (by omega) (by omega)
    unfold pipe_Move.ix at e
    omega
theorem move_size (hp : plain n f d p r dr o s m fr t = 0) (VS : List ByteArray) (a : ByteArray) : ((moveV n f d p r dr o s m fr t VS a).1.size : Int) = ConfLib.length n f d p r dr o s m fr t := by
  have hw := well_size n f d p r dr o s m fr t a
  unfold moveV
  rw [if_pos hp]
  have hlen := all_len n f d p r dr o s m fr t VS (well n f d p r dr o s m fr t a)
  have : (strOfNums ((pipe_Move.all n f d p r dr o s m fr t VS (well n f d p r dr o s m fr t a)).take (well n f d p r dr o s m fr t a).size)).size = (well n f d p r dr o s m fr t a).size := by
    rw [Bytes.size_list]
    simp [strOfNums]
    omega
  rw [← hw]
  exact congrArg _ this
theorem move_take (hp : plain n f d p r dr o s m fr t = 0) (VS : List ByteArray) (a : ByteArray) (ha : (a.size : Int) = ConfLib.length n f d p r dr o s m fr t) (i : Nat) (hi : i < a.size) :
    bt (moveV n f d p r dr o s m fr t VS a).1 (i : Int) = (pipe_Move.all n f d p r dr o s m fr t VS a).getD i 0 := by
  unfold moveV
  rw [if_pos hp, well_self n f d p r dr o s m fr t ha]
  have hlen := all_len n f d p r dr o s m fr t VS a
  have hb := all_bytes n f d p r dr o s m fr t VS a i
  have e : ((pipe_Move.all n f d p r dr o s m fr t VS a).take a.size).getD i 0 = (pipe_Move.all n f d p r dr o s m fr t VS a).getD i 0 := by
    simp [List.getD_eq_getElem?_getD, List.getElem?_take, hi]
  have := nums_bt (xs := (pipe_Move.all n f d p r dr o s m fr t VS a).take a.size) (i := i) (by rw [List.length_take]; omega) (by rw [e]; exact hb.1) (by rw [e]; exact hb.2)
  rw [e] at this
  exact this
theorem move_bt (hp : plain n f d p r dr o s m fr t = 0) (VS : List ByteArray) (a : ByteArray) (ha : (a.size : Int) = ConfLib.length n f d p r dr o s m fr t) (i : Nat) (hi : i + 1 < a.size) :
    bt (moveV n f d p r dr o s m fr t VS a).1 ((i + 1 : Nat) : Int) = ageV n f d p r dr o s m fr t VS (i + 1) (bt a (i : Int)) := by
  rw [move_take n f d p r dr o s m fr t hp VS a ha (i + 1) hi]
  exact all_get n f d p r dr o s m fr t hp VS a ha i (by omega)
theorem move_bt0 (hp : plain n f d p r dr o s m fr t = 0) (VS : List ByteArray) (a : ByteArray) (ha : (a.size : Int) = ConfLib.length n f d p r dr o s m fr t) : bt (moveV n f d p r dr o s m fr t VS a).1 0 = 48 := by
  have h3 := len_pos n f d p r dr o s m fr t hp
  exact (move_take n f d p r dr o s m fr t hp VS a ha 0 (by omega)).trans (first_get n f d p r dr o s m fr t hp VS a ha)
theorem move_end (hp : plain n f d p r dr o s m fr t = 0) (VS : List ByteArray) (a : ByteArray) (ha : (a.size : Int) = ConfLib.length n f d p r dr o s m fr t) (i : Nat) (hi : i + 1 = a.size) :
    (moveV n f d p r dr o s m fr t VS a).2 = if val (ageV n f d p r dr o s m fr t VS (i + 1) (bt a (i : Int))) = 1 then 1 else 0 := by
  unfold moveV lastV
  rw [if_pos hp, well_self n f d p r dr o s m fr t ha, ← all_get n f d p r dr o s m fr t hp VS a ha i (by omega), hi]
end
end Go.Proofs.Ythblnnboeikgcaa.PipeLib
end
section
set_option linter.unusedVariables false
set_option linter.unusedSimpArgs false
namespace Go.Proofs.Ythblnnboeikgcaa.pipeApart
open Go.RowKit Go.Proofs.Ythblnnboeikgcaa.P Go.Proofs.YthblnnboeikgcaaW.PrintWords Go.Proofs.Ythblnnboeikgcaa.ConfLib Go.Proofs.Ythblnnboeikgcaa.KingLib Go.Proofs.Ythblnnboeikgcaa.VecLib Go.Proofs.Ythblnnboeikgcaa.PipeLib
theorem known : Ev (fun k => l17known.f k) true := Ev.of l17known.mono (show l17known.f 1000 = some true by decide +kernel)
theorem last : Ev (fun k => (l17known.f k).bind fun t => some t) true := Ev.bind known (Ev.val rfl)
def other (a : ByteArray) (i : Nat) (c : Int) : ByteArray := ((a.extract 0 i) ++ (strOfNums [c])) ++ (a.extract (i + 1) a.size)
theorem other_list (a : ByteArray) (i : Nat) (c : Int) : (other a i c).data.toList = a.data.toList.take i ++ [UInt8.ofNat c.toNat] ++ a.data.toList.drop (i + 1) := by
  unfold other
  rw [Bytes.append_list, Bytes.append_list, Bytes.take_list, Bytes.drop_list]
  simp [strOfNums]
theorem other_size {a : ByteArray} {i : Nat} (hi : i < a.size) (c : Int) : (other a i c).size = a.size := by
  have h := data_length a
  rw [Bytes.size_list, other_list]
  simp
  have h2 : a.data.toList.length = a.size := h
  simp at h2
  omega
theorem other_bt {a : ByteArray} {i : Nat} (hi : i < a.size) (c : Int) {j : Nat} (hj : j < a.size) (hne : j ≠ i) : bt (other a i c) (j : Int) = bt a (j : Int) := by
  have h2 : a.data.toList.length = a.size := data_length a
  rw [Bytes.bt_list _ _ (by rw [other_size hi]; exact hj), Bytes.bt_list _ _ hj, other_list]
  congr 2
  rw [List.getD_eq_getElem?_getD, List.getD_eq_getElem?_getD]
  congr 1
  have ht : (a.data.toList.take i).length = i := by rw [List.length_take]; omega
  by_cases h : j < i
  · rw [List.append_assoc, List.getElem?_append_left (by rw [ht]; exact h), List.getElem?_take, if_pos h]
  · rw [List.getElem?_append_right (by rw [List.length_append, ht]; simp; omega), List.getElem?_drop]
    congr 1
    rw [List.length_append, ht]
    simp
    omega
theorem pure : Pure := by
  rintro ⟨n, f, d, p, r, dr, o, s, m, fr, t⟩ a ⟨i, c⟩ VS _ _ hw _
  have hi64 := Bytes.wf64 hw.1
  refine Ev.rounds (r := true) ?_
  show Ev (fun k => l17PipeApart.f k n f d p r dr o s m fr t a i c VS) true
  refine Ev.congr (fun k => l17PipeApart.f.eq_1 ..) (Ev.bind (Ev.from 700 (fun k hk => ref_plain_at n f d p r dr o s m fr t hk)) ?_)
  have out : Ev (fun k => l17PipeApart.j0 k a VS i c true n f d p r dr o s m fr t) true := Ev.step (fun k => l17PipeApart.j0.eq_2 ..) (Ev.pos rfl last)
  by_cases hp : plain n f d p r dr o s m fr t = 0
  case neg => exact Ev.neg hp out
  refine Ev.pos hp (Ev.bind (Ev.from 700 (fun k hk => ref_length_at n f d p r dr o s m fr t hk)) ?_)
  by_cases ha : (a.size : Int) = ConfLib.length n f d p r dr o s m fr t
  case neg => exact Ev.neg ha out
  refine Ev.pos ha ?_
  by_cases h1 : i < 0
  · exact Ev.pos h1 out
  refine Ev.neg h1 ?_
  by_cases h2 : i ≥ (a.size : Int)
  · exact Ev.pos h2 out
  refine Ev.neg h2 ?_
  by_cases h3 : (VS.length : Int) > 20
  · rw [show (decide ((VS.length : Int) > 20)) = true from decide_eq_true h3]
    exact out
  rw [show (decide ((VS.length : Int) > 20)) = false from decide_eq_false h3]
  obtain ⟨at_, rfl⟩ := Int.eq_ofNat_of_zero_le (show 0 ≤ i by omega)
  have hlt : at_ < a.size := by omega
  have hlf := length_facts n f d p r dr o s m fr t
  have hos := other_size hlt c
  have hoa : ((other a at_ c).size : Int) = ConfLib.length n f d p r dr o s m fr t := by rw [hos]; exact ha
  have hob := fun {j : Nat} (hj : j < a.size) (hne : j ≠ at_) => other_bt hlt c hj hne
  have hs1 := PipeLib.move_size n f d p r dr o s m fr t hp VS a
  have hs2 := PipeLib.move_size n f d p r dr o s m fr t hp VS (other a at_ c)
  have hsame : ∀ j, j < a.size → j ≠ at_ + 1 → bt (moveV n f d p r dr o s m fr t VS a).1 (j : Int) = bt (moveV n f d p r dr o s m fr t VS (other a at_ c)).1 (j : Int) := by
    intro j hj hne
    cases j with
    | zero => exact (move_bt0 n f d p r dr o s m fr t hp VS a ha).trans (move_bt0 n f d p r dr o s m fr t hp VS _ hoa).symm
    | succ j => rw [move_bt n f d p r dr o s m fr t hp VS a ha j hj, move_bt n f d p r dr o s m fr t hp VS _ hoa j (by rw [hos]; exact hj), hob (by omega) (by omega)]
  have hend : at_ + 1 < a.size → (moveV n f d p r dr o s m fr t VS a).2 = (moveV n f d p r dr o s m fr t VS (other a at_ c)).2 := by
    intro h
    rw [move_end n f d p r dr o s m fr t hp VS a ha (a.size - 1) (by omega), move_end n f d p r dr o s m fr t hp VS _ hoa (a.size - 1) (by rw [hos]; omega), hob (by omega) (by omega)]
  have hoth : other a at_ c = ((a.extract 0 (at_ : Int).toNat) ++ (strOfNums [c])) ++ (a.extract (((at_ + 1 : Nat) : Int)).toNat a.size) := rfl
  have hsz1 : (strOfNums [c]).size = 1 := rfl
  have hw1 : Sd (wrap64 ((at_ : Int) + 1) = ((at_ + 1 : Nat) : Int)) := ⟨succ_w (by omega)⟩
  have mv1 := move_ev n f d p r dr o s m fr t VS (by omega) a
  have mv2 := move_ev n f d p r dr o s m fr t VS (by omega) (other a at_ c)
  generalize moveV n f d p r dr o s m fr t VS (other a at_ c) = Q at hs2 hsame hend mv2
  generalize moveV n f d p r dr o s m fr t VS a = P at hs1 hsame hend mv1
  refine Ev.step (fun k => l17PipeApart.j0.eq_2 ..) ?_
  refine Ev.neg (by decide) ?_
  refine Ev.bind mv1 ?_
  refine Ev.pos (by omega) ?_
  refine Ev.pos (by omega) ?_
  have hA : (at_ : Int).toNat + (strOfNums [c]).size ≤ 9223372036854775807 := by
    rw [hsz1, Int.toNat_natCast]
    omega
  have hB : ((at_ : Int).toNat + (strOfNums [c]).size) + (a.size - (((at_ + 1 : Nat) : Int)).toNat) ≤ 9223372036854775807 := by
    rw [hsz1, Int.toNat_natCast, Int.toNat_natCast]
    omega
  refine Ev.some_ (x := [c]) rfl ?_
  refine Ev.pos hA ?_
  rw [hw1.out]
  refine Ev.pos (by omega) ?_
  refine Ev.pos (by omega) ?_
  refine Ev.pos hB ?_
  rw [← hoth]
  refine Ev.bind mv2 (Ev.pos (by omega) (Ev.pos (by omega) ?_))
  have loop : ∀ (q j : Nat), j + q = a.size → Ev (fun k => l17PipeApart.l0 k a (at_ : Int) P.1 Q.1 (j : Int)) true := by
    intro q
    induction q with
    | zero =>
      intro j hj
      exact Ev.step (fun k => l17PipeApart.l0.eq_2 ..) (Ev.neg (by omega) last)
    | succ q ih =>
      intro j hj
      have go := ih (j + 1) (by omega)
      have hw2 : Sd (wrap64 ((j : Int) + 1) = ((j + 1 : Nat) : Int)) := ⟨succ_w (by omega)⟩
      refine Ev.step (fun k => l17PipeApart.l0.eq_2 ..) (Ev.pos (by omega) ?_)
      rw [hw1.out, hw2.out]
      by_cases e : j = at_ + 1
      · exact Ev.pos (by rw [e]) go
      · exact Ev.neg (by omega) (Ev.pos (by omega) (Ev.pos (by omega) (Ev.pos (by omega) (Ev.pos (hsame j (by omega) e) go))))
  have fin : Ev (fun k => l17PipeApart.j1 k a (at_ : Int) P.1 Q.1 false) true := Ev.step (fun k => l17PipeApart.j1.eq_2 ..) (Ev.neg (by decide) (loop a.size 0 (by omega)))
  by_cases h4 : at_ + 1 < a.size
  · refine Ev.pos (by omega) ?_
    rw [show (P.2 != Q.2) = false from bne_eq_false_iff_eq.2 (hend h4)]
    exact fin
  · exact Ev.neg (by omega) fin
end Go.Proofs.Ythblnnboeikgcaa.pipeApart
end
