import Derived.Test.YtfannnojhkkaiaaYVecApart41
import Derived.Test.YtfannnojhkkaiaaYVecApart49
import Derived.Test.YtfannnojhkkaiaaYVecApart35
import Derived.Test.YtfannnojhkkaiaaYVecApart38
set_option linter.unusedVariables false
set_option linter.unusedSimpArgs false
namespace Go.Proofs.Ytfannnojhkkaiaa.vecApart
open Go.RowKit Go.Proofs.Ytfannnojhkkaiaa.V Go.Proofs.YtfannnojhkkaiaaW.PrintWords Go.Proofs.Ytfannnojhkkaiaa.ConfLib Go.Proofs.Ytfannnojhkkaiaa.KingLib Go.Proofs.Ytfannnojhkkaiaa.VecLib
theorem known : Ev (fun k => bellwetherlaw16_known.f k) true := Ev.of bellwetherlaw16_known.mono (show bellwetherlaw16_known.f 1000 = some true by decide +kernel)
theorem last : Ev (fun k => (bellwetherlaw16_known.f k).bind fun t => some t) true := Ev.bind known (Ev.val rfl)
def part (z : ByteArray) (j : Nat) : ByteArray := z.extract j (j + 1)
theorem small_size {z : ByteArray} (h : z.size ≤ 140737488351232) (j : Nat) (hj : j ≤ 1000) : bellwetherlaw16_part.f z (j : Int) = some (part z j) := by
  unfold bellwetherlaw16_part.f
  rw [if_neg (by omega)]
  by_cases d : (j : Int) ≥ (z.size : Int)
  · rw [if_pos d]
    refine congrArg some (Bytes.ext ?_)
    unfold part
    rw [Bytes.extract_list]
    have : z.data.toList.length = z.size := data_length z
    rw [List.drop_eq_nil_of_le (by omega), List.take_nil]
  · rw [if_neg d, succ_w (by omega), if_pos (by omega), if_pos (by omega), if_pos (by omega)]
    rfl
theorem part_bt (z : ByteArray) {j : Nat} (hj : j < z.size) : (part z j).size = 1 ∧ bt (part z j) 0 = bt z (j : Int) := by
  have hs : (part z j).size = 1 := by unfold part; rw [ByteArray.size_extract]; omega
  refine ⟨hs, ?_⟩
  have a := Bytes.bt_nat (part z j) 0 (by omega)
  have b := Bytes.bt_nat z j hj
  rw [show (0 : Int) = ((0 : Nat) : Int) from rfl, a, b]
  have e : (part z j).data.toList = (z.data.toList.drop j).take (j + 1 - j) := by unfold part; rw [Bytes.extract_list]
  simp [e]
theorem part_vote (z : ByteArray) (j : Nat) : vote (part z j) 0 = vote z (j : Int) := by
  by_cases hj : j < z.size
  · obtain ⟨h1, h2⟩ := part_bt z hj
    unfold vote vec_Step_1.vote
    rw [h1, h2]
    have : (0 : Int) ≥ ((1 : Nat) : Int) ↔ (j : Int) ≥ (z.size : Int) := by omega
    simp only [this]
  · have h1 : (part z j).size = 0 := by unfold part; rw [ByteArray.size_extract]; omega
    unfold vote vec_Step_1.vote
    rw [if_pos (.inl (by rw [h1]; decide)), if_pos (.inl (by omega))]
theorem pure : Pure := by
  rintro ⟨n, f, d, p, r, dr, o, s, m, fr, t⟩ x z l _ _ _ hl0
  have hsz : ∀ y ∈ l, y.size ≤ 140737488351232 := hl0.2
  refine Ev.rounds (r := true) ?_
  refine Ev.congr (fun k => bellwetherlaw16_VecApart.f.eq_1 ..) ?_
  show Ev (fun k => if (z.size : Int) > 40 then (bellwetherlaw16_VecApart.j0 k x z l true n f d p r dr o s m fr t) else (bellwetherlaw16_VecApart.j0 k x z l (decide ((l.length : Int) > 20)) n f d p r dr o s m fr t)) true
  by_cases h1 : (z.size : Int) > 40
  · exact Ev.pos h1 (Ev.step (fun k => bellwetherlaw16_VecApart.j0.eq_2 ..) (Ev.pos rfl last))
  refine Ev.neg h1 (Ev.step (fun k => bellwetherlaw16_VecApart.j0.eq_2 ..) ?_)
  by_cases h2 : (l.length : Int) > 20
  · exact Ev.pos (decide_eq_true h2) last
  refine Ev.neg (by simpa using h2) ?_
  have key : ∀ v : ByteArray, v.size ≤ 140737488351232 → Ev (fun k => bellwetherlaw16_VecApart.j1 k x z l v n f d p r dr o s m fr t) true := by
    intro v hv
    refine Ev.step (fun k => bellwetherlaw16_VecApart.j1.eq_2 ..) ?_
    refine Ev.bind (Ev.from 10 (fun k hk => vstep_at n f d p r dr o s m fr t x z v l (by omega) (by omega) hk)) ?_
    have hd := stepD_len n f d p r dr o s m fr t x z v l
    have hts : (txt (stepD n f d p r dr o s m fr t x z v l)).size = z.size := by rw [txt_size, hd]
    refine Ev.pos (by rw [hts]) ?_
    have outer : ∀ (q i : Nat), i + q = z.size → Ev (fun k => bellwetherlaw16_VecApart.l0 k x z l v (txt (stepD n f d p r dr o s m fr t x z v l)) (i : Int) n f d p r dr o s m fr t) true := by
      intro q
      induction q with
      | zero =>
        intro i hi
        exact Ev.step (fun k => bellwetherlaw16_VecApart.l0.eq_2 ..) (Ev.neg (by omega) last)
      | succ q ih =>
        intro i hi
        have go := ih (i + 1) (by omega)
        refine Ev.step (fun k => bellwetherlaw16_VecApart.l0.eq_2 ..) (Ev.pos (by omega) ?_)
        have inner : ∀ (q2 j : Nat), j + q2 = l.length → Ev (fun k => bellwetherlaw16_VecApart.l1 k x z l v (txt (stepD n f d p r dr o s m fr t x z v l)) (i : Int) ((l.map (fun y => part y i)).take j) (j : Int) n f d p r dr o s m fr t) true := by
          intro q2
          induction q2 with
          | zero =>
            intro j hj
            refine Ev.step (fun k => bellwetherlaw16_VecApart.l1.eq_2 ..) (Ev.neg (by omega) ?_)
            rw [List.take_of_length_le (by rw [List.length_map]; omega), succ_w (by omega)]
            refine Ev.pos (by omega) (Ev.pos (by omega) (Ev.pos (by omega) (Ev.some_ (small_size hv i (by omega)) ?_)))
            have hz1 : (part z i).size = 1 := (part_bt z (by omega)).1
            refine Ev.bind (Ev.from 10 (fun k hk => vstep_at n f d p r dr o s m fr t x (part z i) (part v i) (l.map (fun y => part y i)) (by omega) (by rw [List.length_map]; omega) hk)) ?_
            refine Ev.pos (by rw [hts]; omega) (Ev.pos ?_ go)
            have he : txt (stepD n f d p r dr o s m fr t x (part z i) (part v i) (l.map (fun y => part y i))) = (txt (stepD n f d p r dr o s m fr t x z v l)).extract i (i + 1) := by
              rw [txt_extract]
              congr 1
              have hi2 : i < z.size := by omega
              have hr : (stepD n f d p r dr o s m fr t x z v l).drop i = (stepD n f d p r dr o s m fr t x z v l)[i] :: (stepD n f d p r dr o s m fr t x z v l).drop (i + 1) := List.drop_eq_getElem_cons (by omega)
              rw [hr, show i + 1 - i = 1 by omega]
              simp only [List.take_succ_cons, List.take_zero]
              unfold stepD
              rw [hz1]
              simp only [List.range_one, List.map_cons, List.map_nil, List.getElem_map, List.getElem_range]
              rw [show ((0 : Nat) : Int) = 0 from rfl, (part_bt z hi2).2, part_vote, List.map_map]
              congr 2
              exact List.map_congr_left (fun y _ => part_vote y i)
            exact congrArg ByteArray.toList he
          | succ q2 ih2 =>
            intro j hj
            have hg : (l.map (fun y => part y i)).take j ++ [part (rdOf ByteArray.empty l (j : Int)) i] = (l.map (fun y => part y i)).take (j + 1) := by
              rw [List.take_succ_eq_append_getElem (by rw [List.length_map]; omega)]
              simp [rdOf, List.getD_eq_getElem?_getD, show j < l.length by omega]
            have go2 := ih2 (j + 1) (by omega)
            rw [← succ_w (by omega), ← hg] at go2
            have hm : (rdOf ByteArray.empty l (j : Int)).size ≤ 140737488351232 := by
              have : rdOf ByteArray.empty l (j : Int) = l[j]'(by omega) := by simp [rdOf, List.getD_eq_getElem?_getD, show j < l.length by omega]
              rw [this]
              exact hsz _ (List.getElem_mem _)
            have hl2 : ((l.map (fun y => part y i)).take j).length < 8796093022208 := Nat.lt_of_le_of_lt (m := 1000) (by rw [List.length_take, List.length_map]; omega) (by decide)
            exact Ev.step (fun k => bellwetherlaw16_VecApart.l1.eq_2 ..) (Ev.pos (by omega) (Ev.pos (by omega) (Ev.some_ (small_size hm i (by omega)) (Ev.pos hl2 go2))))
        exact inner l.length 0 (by omega)
    exact outer z.size 0 (by omega)
  by_cases h3 : (l.length : Int) > 0
  · rw [ConfLib.wrap_small (n := (l.length : Int) - 1) (by omega) (by omega)]
    refine Ev.pos h3 (Ev.pos (by omega) (Ev.pos (by omega) (key _ ?_)))
    have hi : ((l.length : Int) - 1).toNat < l.length := by omega
    have : rdOf ByteArray.empty l ((l.length : Int) - 1) = l[((l.length : Int) - 1).toNat] := by simp only [rdOf]; rw [List.getD_eq_getElem?_getD, List.getElem?_eq_getElem hi]; rfl
    rw [this]
    exact hsz _ (List.getElem_mem _)
  · refine Ev.neg h3 (key _ ?_)
    omega
end Go.Proofs.Ytfannnojhkkaiaa.vecApart
