import Derived.Test.YthblnnboeikgcaaYBeatSettles50
set_option linter.unusedVariables false
set_option linter.unusedSimpArgs false
set_option linter.unusedSectionVars false
namespace Go.Proofs.Ythblnnboeikgcaa.BeatLib
open Go.RowKit Go.Proofs.Ythblnnboeikgcaa.B Go.Proofs.YthblnnboeikgcaaW.PrintWords Go.Proofs.YthblnnboeikgcaaW.PrintMore Go.Proofs.Ythblnnboeikgcaa.ConfLib Go.Proofs.Ythblnnboeikgcaa.TallyLib Go.Proofs.Ythblnnboeikgcaa.KingLib Go.Proofs.Ythblnnboeikgcaa.VecLib Go.Proofs.Ythblnnboeikgcaa.PlanLib Go.Proofs.Ythblnnboeikgcaa.PipeLib
abbrev rdT := rdOf ByteArray.empty
section
variable (n f d p r dr o s m fr : Int) (t : List Int) (PP : List ByteArray) (SS F : List Int) (LL : List ByteArray)
def lieB (q k i : Int) : ByteArray := if (LL.length : Int) = 0 then E0 else rdT LL ((q * n * n + k * n + i) % (LL.length : Int))
def stB : Nat → Nat → ByteArray × Int
  | 0, i => (rdT PP (i : Int), rd SS (i : Int))
  | q + 1, i =>
    ((stepV n f d p r dr o s m fr t (stB q i).1 (stB q i).2 0 ((List.range n.toNat).map (fun (k : Nat) => if (q : Int) < d then lieB n LL (q : Int) (k : Int) (i : Int) else if F.contains (k : Int) = true then lieB n LL (q : Int) (k : Int) (i : Int) else tellV n f d p r dr o s m fr t (stB (q - (d.toNat - 1)) k).1))).1,
     (stepV n f d p r dr o s m fr t (stB q i).1 (stB q i).2 0 ((List.range n.toNat).map (fun (k : Nat) => if (q : Int) < d then lieB n LL (q : Int) (k : Int) (i : Int) else if F.contains (k : Int) = true then lieB n LL (q : Int) (k : Int) (i : Int) else tellV n f d p r dr o s m fr t (stB (q - (d.toNat - 1)) k).1))).2.1)
termination_by q => q
abbrev pipeB (q i : Nat) : ByteArray := (stB n f d p r dr o s m fr t PP SS F LL q i).1
abbrev sinceB (q i : Nat) : Int := (stB n f d p r dr o s m fr t PP SS F LL q i).2
def wordB (q i k : Nat) : ByteArray := if (q : Int) < d then lieB n LL (q : Int) (k : Int) (i : Int) else if F.contains (k : Int) = true then lieB n LL (q : Int) (k : Int) (i : Int) else tellV n f d p r dr o s m fr t (pipeB n f d p r dr o s m fr t PP SS F LL (q - (d.toNat - 1)) k)
def heardB (q i : Nat) : List ByteArray := (List.range n.toNat).map (fun (k : Nat) => wordB n f d p r dr o s m fr t PP SS F LL q i k)
def endB (q i : Nat) : Int := (moveV n f d p r dr o s m fr t (heardB n f d p r dr o s m fr t PP SS F LL q i) (pipeB n f d p r dr o s m fr t PP SS F LL q i)).2
theorem stB_step (q i : Nat) : stepV n f d p r dr o s m fr t (pipeB n f d p r dr o s m fr t PP SS F LL q i) (sinceB n f d p r dr o s m fr t PP SS F LL q i) 0 (heardB n f d p r dr o s m fr t PP SS F LL q i) =
    (pipeB n f d p r dr o s m fr t PP SS F LL (q + 1) i, sinceB n f d p r dr o s m fr t PP SS F LL (q + 1) i, (nextV n f d p r dr o s m fr t (sinceB n f d p r dr o s m fr t PP SS F LL q i) 0 (endB n f d p r dr o s m fr t PP SS F LL q i == 1)).2, endB n f d p r dr o s m fr t PP SS F LL q i == 1) := by
  have e : stB n f d p r dr o s m fr t PP SS F LL (q + 1) i = ((stepV n f d p r dr o s m fr t (pipeB n f d p r dr o s m fr t PP SS F LL q i) (sinceB n f d p r dr o s m fr t PP SS F LL q i) 0 (heardB n f d p r dr o s m fr t PP SS F LL q i)).1, (stepV n f d p r dr o s m fr t (pipeB n f d p r dr o s m fr t PP SS F LL q i) (sinceB n f d p r dr o s m fr t PP SS F LL q i) 0 (heardB n f d p r dr o s m fr t PP SS F LL q i)).2.1) := by
    rw [stB]
    rfl
  show _ = ((stB n f d p r dr o s m fr t PP SS F LL (q + 1) i).1, (stB n f d p r dr o s m fr t PP SS F LL (q + 1) i).2, _, _)
  rw [e]
  rfl
theorem since_next (q i : Nat) : sinceB n f d p r dr o s m fr t PP SS F LL (q + 1) i = (nextV n f d p r dr o s m fr t (sinceB n f d p r dr o s m fr t PP SS F LL q i) 0 (endB n f d p r dr o s m fr t PP SS F LL q i == 1)).1 := by
  have h := stB_step n f d p r dr o s m fr t PP SS F LL q i
  have h2 := congrArg (fun z : ByteArray × Int × Int × Bool => z.2.1) h
  exact h2.symm
theorem pipe_next (q i : Nat) : pipeB n f d p r dr o s m fr t PP SS F LL (q + 1) i = beginV n f d p r dr o s m fr t (moveV n f d p r dr o s m fr t (heardB n f d p r dr o s m fr t PP SS F LL q i) (pipeB n f d p r dr o s m fr t PP SS F LL q i)).1 (bitB n f d p r dr o s m fr t (sinceB n f d p r dr o s m fr t PP SS F LL (q + 1) i)) := by
  have h := stB_step n f d p r dr o s m fr t PP SS F LL q i
  have h2 := congrArg (fun z : ByteArray × Int × Int × Bool => z.1) h
  rw [since_next]
  exact h2.symm
end
section
variable {n f d p r dr o s m fr : Int} {t : List Int}
theorem begin_size (hp : plain n f d p r dr o s m fr t = 0) (a : ByteArray) (b : Int) : ((beginV n f d p r dr o s m fr t a b).size : Int) = ConfLib.length n f d p r dr o s m fr t := by
  rw [← well_size n f d p r dr o s m fr t a]
  unfold beginV
  rw [if_pos hp, Bytes.size_list, put_list, List.length_set]
  exact congrArg _ (data_length _)
theorem begin_bt (hp : plain n f d p r dr o s m fr t = 0) (a : ByteArray) (b : Int) (ha : (a.size : Int) = ConfLib.length n f d p r dr o s m fr t) (i : Nat) (hi : i < a.size) : bt (beginV n f d p r dr o s m fr t a b) (i : Int) = if i = 0 then 48 + code (KingLib.start b).1 (KingLib.start b).2 else bt a (i : Int) := by
  have hcr := code_range (KingLib.start b).1 (KingLib.start b).2
  have hn := pipe_sound.nums_len a
  have e : beginV n f d p r dr o s m fr t a b = strOfNums ((pipe_sound.nums a).set 0 (48 + code (KingLib.start b).1 (KingLib.start b).2)) := by
    unfold beginV
    rw [if_pos hp, well_self n f d p r dr o s m fr t ha]
    rfl
  have hg : ((pipe_sound.nums a).set 0 (48 + code (KingLib.start b).1 (KingLib.start b).2)).getD i 0 = if i = 0 then 48 + code (KingLib.start b).1 (KingLib.start b).2 else (pipe_sound.nums a).getD i 0 := by
    rw [List.getD_eq_getElem?_getD, List.getElem?_set]
    by_cases h : i = 0
    · subst h
      rw [if_pos rfl, if_pos rfl, if_pos (by omega)]
      rfl
    · rw [if_neg (fun e => h e.symm), if_neg h, List.getD_eq_getElem?_getD]
  have hget : (pipe_sound.nums a).getD i 0 = bt a (i : Int) := KW.getD_range (fun (j : Nat) => bt a (j : Int)) 0 hi
  have hbt : 0 ≤ bt a (i : Int) ∧ bt a (i : Int) ≤ 255 := by
    rw [Bytes.bt_nat _ _ hi]
    have := UInt8.toNat_lt (a.data.toList[i]'(by rw [data_length]; exact hi))
    omega
  rw [hget] at hg
  rw [e, nums_bt (by rw [List.length_set]; omega) (by rw [hg]; split <;> omega) (by rw [hg]; split <;> omega), hg]
theorem hears_of (hp : plain n f d p r dr o s m fr t = 0) (i : Nat) (hi : ((i + 1 : Nat) : Int) ≤ ConfLib.length n f d p r dr o s m fr t) :
    (¬ ((i + 1 : Nat) : Int) % d = 0 → PlanLib.hears n f d p r dr o s m fr t ((i + 1 : Nat) : Int) < 0) ∧
    (((i + 1 : Nat) : Int) % d = 0 → PlanLib.hears n f d p r dr o s m fr t ((i + 1 : Nat) : Int) = ((i + 1 : Nat) : Int) / d - 1 ∧ 0 ≤ ((i + 1 : Nat) : Int) / d - 1 ∧ ((i + 1 : Nat) : Int) / d - 1 < ConfLib.rounds n f d p r dr o s m fr t) := by
  have hf := plain_facts hp
  have hd : d = 1 ∨ d = 2 ∨ d = 3 ∨ d = 4 := by omega
  have hr : ConfLib.rounds n f d p r dr o s m fr t = 3 * (f + 1) := by unfold ConfLib.rounds; rw [if_pos hp]
  have hl : ConfLib.length n f d p r dr o s m fr t = 3 * (f + 1) * d := by unfold ConfLib.length; rw [if_pos hp]
  rw [hl] at hi
  rw [hr]
  unfold PlanLib.hears PlanLib.ex
  rw [if_pos hp]
  clear hl hr hp
  have hy : 1 ≤ ((i + 1 : Nat) : Int) := by omega
  generalize ((i + 1 : Nat) : Int) = y at hi hy ⊢
  rcases hd with rfl | rfl | rfl | rfl
  all_goals
    refine ⟨fun h => ?_, fun h => ?_⟩
    · repeat' split
      all_goals omega
    · repeat' split
      all_goals (first | omega | (refine ⟨?_, ?_, ?_⟩ <;> omega))
end
section
variable {n f d p r dr o s m fr : Int} {t : List Int} (PP : List ByteArray) (SS F : List Int) (LL : List ByteArray)
theorem pipe_size (hp : plain n f d p r dr o s m fr t = 0) (q i : Nat) : ((pipeB n f d p r dr o s m fr t PP SS F LL (q + 1) i).size : Int) = ConfLib.length n f d p r dr o s m fr t := by
  rw [pipe_next]
  exact begin_size hp _ _
theorem heard_len (q i : Nat) : (heardB n f d p r dr o s m fr t PP SS F LL q i).length = n.toNat := by simp [heardB]
def codeB (n f d p r dr o s m fr : Int) (t : List Int) (PP : List ByteArray) (SS F : List Int) (LL : List ByteArray) (b j i : Nat) : Int :=
  if (j : Int) < ConfLib.length n f d p r dr o s m fr t then bt (pipeB n f d p r dr o s m fr t PP SS F LL (b + 1 + j) i) (j : Int) else ageV n f d p r dr o s m fr t (heardB n f d p r dr o s m fr t PP SS F LL (b + j) i) j (bt (pipeB n f d p r dr o s m fr t PP SS F LL (b + j) i) ((j - 1 : Nat) : Int))
theorem code_zero (hp : plain n f d p r dr o s m fr t = 0) (b i : Nat) : codeB n f d p r dr o s m fr t PP SS F LL b 0 i = 48 + code (KingLib.start (bitB n f d p r dr o s m fr t (sinceB n f d p r dr o s m fr t PP SS F LL (b + 1) i))).1 (KingLib.start (bitB n f d p r dr o s m fr t (sinceB n f d p r dr o s m fr t PP SS F LL (b + 1) i))).2 := by
  have h3 := len_pos n f d p r dr o s m fr t hp
  unfold codeB
  rw [if_pos (by omega)]
  show bt (pipeB n f d p r dr o s m fr t PP SS F LL (b + 1) i) ((0 : Nat) : Int) = _
  have hs := PipeLib.move_size n f d p r dr o s m fr t hp (heardB n f d p r dr o s m fr t PP SS F LL b i) (pipeB n f d p r dr o s m fr t PP SS F LL b i)
  rw [pipe_next, begin_bt hp _ _ hs 0 (by omega), if_pos rfl]
theorem code_step (hp : plain n f d p r dr o s m fr t = 0) (b j i : Nat) (hj : (j : Int) < ConfLib.length n f d p r dr o s m fr t) : codeB n f d p r dr o s m fr t PP SS F LL b (j + 1) i = ageV n f d p r dr o s m fr t (heardB n f d p r dr o s m fr t PP SS F LL (b + 1 + j) i) (j + 1) (codeB n f d p r dr o s m fr t PP SS F LL b j i) := by
  have hz := pipe_size PP SS F LL hp (b + j) i
  rw [show b + j + 1 = b + 1 + j by omega] at hz
  unfold codeB
  rw [if_pos hj]
  by_cases h : ((j + 1 : Nat) : Int) < ConfLib.length n f d p r dr o s m fr t
  · rw [if_pos h]
    have hs := PipeLib.move_size n f d p r dr o s m fr t hp (heardB n f d p r dr o s m fr t PP SS F LL (b + 1 + j) i) (pipeB n f d p r dr o s m fr t PP SS F LL (b + 1 + j) i)
    show bt (pipeB n f d p r dr o s m fr t PP SS F LL (b + 1 + j + 1) i) ((j + 1 : Nat) : Int) = _
    rw [pipe_next, begin_bt hp _ _ hs (j + 1) (by omega), if_neg (by omega)]
    exact move_bt n f d p r dr o s m fr t hp _ _ hz j (by omega)
  · rw [if_neg h, show b + (j + 1) = b + 1 + j by omega]
    rfl
theorem end_code (hp : plain n f d p r dr o s m fr t = 0) (b i : Nat) : endB n f d p r dr o s m fr t PP SS F LL (b + (ConfLib.length n f d p r dr o s m fr t).toNat) i = if val (codeB n f d p r dr o s m fr t PP SS F LL b (ConfLib.length n f d p r dr o s m fr t).toNat i) = 1 then 1 else 0 := by
  have h3 := len_pos n f d p r dr o s m fr t hp
  obtain ⟨l, hl⟩ : ∃ l : Nat, (ConfLib.length n f d p r dr o s m fr t).toNat = l + 1 := ⟨(ConfLib.length n f d p r dr o s m fr t).toNat - 1, by omega⟩
  have hz := pipe_size PP SS F LL hp (b + l) i
  have e : codeB n f d p r dr o s m fr t PP SS F LL b l i = bt (pipeB n f d p r dr o s m fr t PP SS F LL (b + 1 + l) i) (l : Int) := by
    unfold codeB
    rw [if_pos (by omega)]
  rw [hl, code_step PP SS F LL hp b l i (by omega), e, show b + 1 + l = b + l + 1 by omega]
  exact move_end n f d p r dr o s m fr t hp _ _ hz l (by omega)
theorem code_exch (hp : plain n f d p r dr o s m fr t = 0) (b x i : Nat) (hx : (x : Int) < 3 * (f + 1)) : codeB n f d p r dr o s m fr t PP SS F LL b ((x + 1) * d.toNat) i = hearV n f d p r dr o s m fr t x (codeB n f d p r dr o s m fr t PP SS F LL b (x * d.toNat) i) (heardB n f d p r dr o s m fr t PP SS F LL (b + (x + 1) * d.toNat) i) := by
  have hf := plain_facts hp
  have hl : ConfLib.length n f d p r dr o s m fr t = 3 * (f + 1) * d := by unfold ConfLib.length; rw [if_pos hp]
  obtain ⟨D, rfl⟩ : ∃ D : Nat, d = (D : Int) := ⟨d.toNat, by omega⟩
  have hD : D = 1 ∨ D = 2 ∨ D = 3 ∨ D = 4 := by omega
  rw [Int.toNat_natCast]
  have hlt : ∀ y, y < D → ((x * D + y : Nat) : Int) < 3 * (f + 1) * (D : Int) := by
    intro y hy
    rcases hD with rfl | rfl | rfl | rfl <;> omega
  have stay : ∀ y, y < D → codeB n f (D : Int) p r dr o s m fr t PP SS F LL b (x * D + y) i = codeB n f (D : Int) p r dr o s m fr t PP SS F LL b (x * D) i := by
    intro y
    induction y with
    | zero => intro _; rfl
    | succ y ih =>
      intro hy
      have h1 := hlt y (by omega)
      have hh := (hears_of hp (x * D + y) (by rw [hl]; omega)).1 (by rcases hD with rfl | rfl | rfl | rfl <;> omega)
      show codeB n f (D : Int) p r dr o s m fr t PP SS F LL b (x * D + y + 1) i = _
      rw [code_step PP SS F LL hp b (x * D + y) i (by rw [hl]; exact h1), ih (by omega)]
      unfold ageV
      rw [if_pos hh]
  obtain ⟨D', rfl⟩ : ∃ D', D = D' + 1 := ⟨D - 1, by omega⟩
  have h1 := hlt D' (by omega)
  have e : (x + 1) * (D' + 1) = x * (D' + 1) + D' + 1 := by rw [Nat.add_mul]; omega
  have hm : ((x * (D' + 1) + D' + 1 : Nat) : Int) = ((x : Int) + 1) * ((D' + 1 : Nat) : Int) := by
    rw [← e]
    simp
  have hh := (hears_of hp (x * (D' + 1) + D') (by rw [hl]; omega)).2 (by rw [hm]; exact Int.mul_emod_left _ _)
  rw [hm, Int.mul_ediv_cancel _ (by omega)] at hh
  rw [e, code_step PP SS F LL hp b (x * (D' + 1) + D') i (by rw [hl]; exact h1), stay D' (by omega)]
  unfold ageV
  rw [hm, hh.1, if_neg (by omega), show ((x : Int) + 1 - 1).toNat = x by omega, show b + 1 + (x * (D' + 1) + D') = b + (x * (D' + 1) + D' + 1) by omega]
theorem word_vote (hp : plain n f d p r dr o s m fr t = 0) (b x i k : Nat) (hx : (x : Int) < 3 * (f + 1)) (hk : hon F k = true) : vote (wordB n f d p r dr o s m fr t PP SS F LL (b + (x + 1) * d.toNat) i k) (x : Int) = val (codeB n f d p r dr o s m fr t PP SS F LL b (x * d.toNat) k) := by
  have hf := plain_facts hp
  have hl : ConfLib.length n f d p r dr o s m fr t = 3 * (f + 1) * d := by unfold ConfLib.length; rw [if_pos hp]
  have hr : ConfLib.rounds n f d p r dr o s m fr t = 3 * (f + 1) := by unfold ConfLib.rounds; rw [if_pos hp]
  have hc : ¬ F.contains (k : Int) = true := by
    unfold hon at hk
    simpa using hk
  have hge : d.toNat ≤ (x + 1) * d.toNat := by rw [Nat.add_mul]; omega
  have hsub : b + (x + 1) * d.toNat - (d.toNat - 1) = b + x * d.toNat + 1 := by rw [Nat.add_mul]; omega
  have hxl : ((x * d.toNat : Nat) : Int) < 3 * (f + 1) * d := by
    have hd : d = 1 ∨ d = 2 ∨ d = 3 ∨ d = 4 := by omega
    rcases hd with rfl | rfl | rfl | rfl <;> (simp only [Int.toNat_one, Int.reduceToNat]; omega)
  have hxd : ((x * d.toNat : Nat) : Int) = (x : Int) * d := by
    rw [Int.natCast_mul]
    congr 1
    omega
  unfold wordB
  rw [if_neg (by omega), if_neg hc, hsub]
  have hz := pipe_size PP SS F LL hp (b + x * d.toNat) k
  unfold codeB
  rw [hl, if_pos hxl, show b + 1 + x * d.toNat = b + x * d.toNat + 1 by omega]
  generalize pipeB n f d p r dr o s m fr t PP SS F LL (b + x * d.toNat + 1) k = P at hz ⊢
  have hrange := vec_Values_1.range (bt P ((x * d.toNat : Nat) : Int))
  have hg : (tellD n f d p r dr o s m fr t P).getD x 0 = val (bt P ((x * d.toNat : Nat) : Int)) := by
    unfold tellD
    rw [KW.getD_range (fun (j : Nat) => val (bt (well n f d p r dr o s m fr t P) ((j : Int) * d))) 0 (by rw [hr]; omega), well_self n f d p r dr o s m fr t hz, hxd]
  unfold tellV
  rw [vote_txt (by unfold tellD; rw [List.length_map, List.length_range, hr]; omega) (by rw [hg]; exact ⟨hrange.1, by show vec_Values_1.digit _ ≤ 2; omega⟩), hg]
theorem inst_run (hp : plain n f d p r dr o s m fr t = 0) (b : Nat) : KingMath.Run n.toNat f.toNat (hon F)
    (fun x i => (val (codeB n f d p r dr o s m fr t PP SS F LL b (x * d.toNat) i), strong (codeB n f d p r dr o s m fr t PP SS F LL b (x * d.toNat) i))) (fun x i => (heardB n f d p r dr o s m fr t PP SS F LL (b + (x + 1) * d.toNat) i).map (fun z => vote z (x : Int))) := by
  have hb := plain_facts hp
  refine ⟨fun x hx => ⟨fun i hi hh => ?_, fun i k hi hh hk hhk => ?_⟩, fun x i hx hi hh => ?_⟩
  · show ((heardB n f d p r dr o s m fr t PP SS F LL (b + (x + 1) * d.toNat) i).map (fun z => vote z (x : Int))).length = n.toNat
    rw [List.length_map, heard_len]
  · show ((heardB n f d p r dr o s m fr t PP SS F LL (b + (x + 1) * d.toNat) i).map (fun z => vote z (x : Int))).getD k 0 = val (codeB n f d p r dr o s m fr t PP SS F LL b (x * d.toNat) k)
    rw [getD_votes _ _ (by rw [heard_len]; exact hk), ← word_vote PP SS F LL hp b x i k (by omega) hhk]
    unfold heardB
    rw [KW.getD_range (fun (k : Nat) => wordB n f d p r dr o s m fr t PP SS F LL (b + (x + 1) * d.toNat) i k) _ hk]
  · try dsimp only
    have hl := heard_len PP SS F LL (n := n) (f := f) (d := d) (p := p) (r := r) (dr := dr) (o := o) (s := s) (m := m) (fr := fr) (t := t) (b + (x + 1) * d.toNat) i
    rw [code_exch PP SS F LL hp b x i (by omega)]
    generalize heardB n f d p r dr o s m fr t PP SS F LL (b + (x + 1) * d.toNat) i = VS at hl ⊢
    generalize codeB n f d p r dr o s m fr t PP SS F LL b (x * d.toNat) i = c
    have hr := vec_Values_1.range c
    have e : value (val c) = val c := by
      unfold value
      rw [if_neg (by show ¬ (vec_Values_1.digit _ < 0 ∨ 2 < vec_Values_1.digit _); omega)]
    have hm := step_math n f d p r dr o s m fr t hp x (val c) (strong c) (vote (VS.getD (x / 3) ByteArray.empty) (x : Int)) (VS.map (fun z => vote z (x : Int)))
    have hk := step_range n f d p r dr o s m fr t (x : Int) (val c) (strong c) (vote (VS.getD (x / 3) ByteArray.empty) (x : Int)) (VS.map (fun z => vote z (x : Int)))
    rw [getD_votes _ _ (by omega)]
    rw [e] at hm
    unfold hearV newCode
    rw [hm] at hk ⊢
    have hv := val_code _ (KingMath.step n f x (val c, strong c) (vote (VS.getD (x / 3) ByteArray.empty) (x : Int)) (VS.map (fun z => vote z (x : Int)))).2 hk
    rw [show ((n.toNat : Nat) : Int) = n by omega, show ((f.toNat : Nat) : Int) = f by omega]
    exact Prod.ext hv.1 hv.2
theorem len_R (hp : plain n f d p r dr o s m fr t = 0) : (ConfLib.length n f d p r dr o s m fr t).toNat = 3 * (f.toNat + 1) * d.toNat := by
  have hf := plain_facts hp
  have hl : ConfLib.length n f d p r dr o s m fr t = 3 * (f + 1) * d := by unfold ConfLib.length; rw [if_pos hp]
  have hd : d = 1 ∨ d = 2 ∨ d = 3 ∨ d = 4 := by omega
  rw [hl]
  rcases hd with rfl | rfl | rfl | rfl <;> (simp only [Int.toNat_one, Int.reduceToNat]; omega)
theorem ends_agree (hp : plain n f d p r dr o s m fr t = 0) (hf : KingMath.bad n.toNat (hon F) ≤ f.toNat) (q : Nat) (hq : ConfLib.length n f d p r dr o s m fr t ≤ (q : Int)) : ∃ w : Int, ∀ i, i < n.toNat → hon F i = true → endB n f d p r dr o s m fr t PP SS F LL q i = w := by
  have hb := plain_facts hp
  obtain ⟨v, hv, h⟩ := KingMath.agrees hf (by omega) (inst_run PP SS F LL hp (q - (ConfLib.length n f d p r dr o s m fr t).toNat))
  refine ⟨if v = 1 then 1 else 0, fun i hi hh => ?_⟩
  have g := h i hi hh
  have e := end_code PP SS F LL hp (q - (ConfLib.length n f d p r dr o s m fr t).toNat) i
  rw [show q - (ConfLib.length n f d p r dr o s m fr t).toNat + (ConfLib.length n f d p r dr o s m fr t).toNat = q by omega, len_R hp] at e
  rw [len_R hp] at g
  try dsimp only at g
  rw [e, g]
theorem ends_keep (hp : plain n f d p r dr o s m fr t = 0) (hf : KingMath.bad n.toNat (hon F) ≤ f.toNat) (b : Nat) (a : Int) (ha : ∀ i, i < n.toNat → hon F i = true → sinceB n f d p r dr o s m fr t PP SS F LL (b + 1) i = a) : ∀ i, i < n.toNat → hon F i = true → endB n f d p r dr o s m fr t PP SS F LL (b + (ConfLib.length n f d p r dr o s m fr t).toNat) i = bitB n f d p r dr o s m fr t a := by
  have hb := plain_facts hp
  intro i hi hh
  have hbit := bitB_range n f d p r dr o s m fr t a
  have hst : 0 ≤ (KingLib.start (bitB n f d p r dr o s m fr t a)).1 ∧ (KingLib.start (bitB n f d p r dr o s m fr t a)).1 ≤ 2 ∧ (KingLib.start (bitB n f d p r dr o s m fr t a)).1 = bitB n f d p r dr o s m fr t a := by
    unfold KingLib.start
    split
    · rename_i h
      rw [h]
      exact ⟨by decide, by decide, rfl⟩
    · exact ⟨by decide, by decide, by show (0 : Int) = _; omega⟩
  have h := KingMath.keeps hf (by omega) (inst_run PP SS F LL hp b) (w := bitB n f d p r dr o s m fr t a) (by omega) (fun i hi hh => by
    try dsimp only
    rw [Nat.zero_mul, code_zero PP SS F LL hp, ha i hi hh]
    exact (val_code _ _ ⟨hst.1, hst.2.1⟩).1.trans hst.2.2) i hi hh
  rw [end_code PP SS F LL hp, len_R hp]
  try dsimp only at h
  rw [h]
  split <;> omega
end
end Go.Proofs.Ythblnnboeikgcaa.BeatLib
