import Derived.Test.YthblnnboeikgcaaYAgreeTogether47
set_option linter.unusedVariables false
set_option linter.unusedSimpArgs false
set_option linter.unusedSectionVars false
namespace Go.Proofs.Ythblnnboeikgcaa.VecLib
open Go.RowKit Go.Proofs.Ythblnnboeikgcaa.X Go.Proofs.YthblnnboeikgcaaW.PrintWords Go.Proofs.YthblnnboeikgcaaW.PrintMore Go.Proofs.Ythblnnboeikgcaa.ConfLib Go.Proofs.Ythblnnboeikgcaa.TallyLib Go.Proofs.Ythblnnboeikgcaa.KingLib
def hon (F : List Int) (k : Nat) : Bool := !F.contains (k : Int)
theorem bad_few (n : Nat) : ∀ F : List Int, KingMath.bad n (hon F) ≤ F.length
  | [] => by
    unfold KingMath.bad hon
    simp
  | a :: F => by
    have ih := bad_few n F
    unfold KingMath.bad at ih ⊢
    have h1 := KingMath.countP_or (fun k : Nat => decide ((k : Int) = a)) (fun k => !hon F k) (List.range n)
    have h2 : (List.range n).countP (fun k : Nat => decide ((k : Int) = a)) ≤ 1 := by
      have e : (List.range n).countP (fun k : Nat => decide ((k : Int) = a)) ≤ (List.range n).count a.toNat := by
        rw [List.count]
        refine KingMath.countP_le (fun x _ hx => ?_)
        have : (x : Int) = a := of_decide_eq_true hx
        simp
        omega
      have := List.nodup_iff_count.1 (List.nodup_range (n := n)) a.toNat
      omega
    have h3 : (List.range n).countP (fun k => !hon (a :: F) k) ≤ (List.range n).countP (fun k : Nat => decide ((k : Int) = a) || !hon F k) := by
      refine KingMath.countP_le (fun x _ hx => ?_)
      unfold hon at hx ⊢
      simp only [List.contains_cons, Bool.not_not, Bool.or_eq_true, beq_iff_eq, decide_eq_true_eq] at hx ⊢
      exact hx
    rw [List.length_cons]
    omega
theorem vote_txt {V : List Int} {j : Nat} (hj : j < V.length) (h : 0 ≤ V.getD j 0 ∧ V.getD j 0 ≤ 2) : vote (txt V) (j : Int) = V.getD j 0 := by
  unfold vote vec_Step_1.vote
  rw [txt_bt V hj h.1 (by omega), txt_size, if_neg (by omega)]
  omega
theorem vote_values (s : ByteArray) {j : Nat} (hj : j < s.size) : vote (txt (vec_Values.digits s)) (j : Int) = val (bt s (j : Int)) := by
  have hr := vec_Values_1.range (bt s (j : Int))
  rw [vote_txt (by rw [values_len]; exact hj) (by rw [values_get s hj]; exact ⟨hr.1, by show vec_Values_1.digit _ ≤ 2; omega⟩), values_get s hj]
theorem val_code (v : Int) (b : Bool) (hv : 0 ≤ v ∧ v ≤ 2) : val (48 + code v b) = v ∧ strong (48 + code v b) = b := by
  have e : value v = v := by unfold value; rw [if_neg (by omega)]
  show vec_Values_1.digit _ = v ∧ vec_Values_1.strong _ = b
  unfold vec_Values_1.digit vec_Values_1.strong code
  rw [e]
  cases b with
  | true =>
    rw [if_pos rfl, if_neg (by omega), if_neg (by omega)]
    exact ⟨by omega, decide_eq_true (by omega)⟩
  | false =>
    simp only [Bool.false_eq_true, if_false]
    rw [if_neg (by omega), if_neg (by omega)]
    exact ⟨by omega, decide_eq_false (by omega)⟩
section
variable (n f d p r dr o s m fr : Int) (t : List Int)
structure VRun (F : List Int) (w : Nat) (now : Nat → Nat → ByteArray) (VS : Nat → Nat → List ByteArray) : Prop where
  size : ∀ x i, x ≤ 3 * (f.toNat + 1) → i < n.toNat → hon F i = true → (now x i).size = w
  len : ∀ x i, x < 3 * (f.toNat + 1) → i < n.toNat → hon F i = true → (VS x i).length = n.toNat
  own : ∀ x i k, x < 3 * (f.toNat + 1) → i < n.toNat → hon F i = true → k < n.toNat → hon F k = true → (VS x i).getD k ByteArray.empty = txt (vec_Values.digits (now x k))
  next : ∀ x i, x < 3 * (f.toNat + 1) → i < n.toNat → hon F i = true → now (x + 1) i = txt (stepD n f d p r dr o s m fr t (x : Int) (now x i) ((VS x i).getD (x / 3) ByteArray.empty) (VS x i))
variable {n f d p r dr o s m fr t} {F : List Int} {w : Nat} {now : Nat → Nat → ByteArray} {VS : Nat → Nat → List ByteArray}
theorem getD_votes (l : List ByteArray) (j : Int) {i : Nat} (hi : i < l.length) : (l.map (fun z => vote z j)).getD i 0 = vote (l.getD i ByteArray.empty) j := by
  simp [List.getD_eq_getElem?_getD, hi]
theorem next_bt (R : VRun n f d p r dr o s m fr t F w now VS) {x i j : Nat} (hx : x < 3 * (f.toNat + 1)) (hi : i < n.toNat) (hh : hon F i = true) (hj : j < w) :
    bt (now (x + 1) i) (j : Int) = 48 + newCode n f d p r dr o s m fr t (x : Int) (bt (now x i) (j : Int)) (vote ((VS x i).getD (x / 3) ByteArray.empty) (j : Int)) ((VS x i).map (fun z => vote z (j : Int))) := by
  have hs := R.size x i (by omega) hi hh
  have hc := newCode_range n f d p r dr o s m fr t (x : Int) (bt (now x i) (j : Int)) (vote ((VS x i).getD (x / 3) ByteArray.empty) (j : Int)) ((VS x i).map (fun z => vote z (j : Int)))
  have hg := stepD_get n f d p r dr o s m fr t (x : Int) (now x i) ((VS x i).getD (x / 3) ByteArray.empty) (VS x i) (j := j) (by omega)
  rw [R.next x i hx hi hh, txt_bt _ (by rw [stepD_len]; omega) (by rw [hg]; exact hc.1) (by rw [hg]; omega), hg]
theorem next_step (hp : plain n f d p r dr o s m fr t = 0) (R : VRun n f d p r dr o s m fr t F w now VS) {x i j : Nat} (hx : x < 3 * (f.toNat + 1)) (hi : i < n.toNat) (hh : hon F i = true) (hj : j < w) :
    bt (now (x + 1) i) (j : Int) = 48 + code (KingMath.step n.toNat f.toNat x (val (bt (now x i) (j : Int)), strong (bt (now x i) (j : Int))) (((VS x i).map (fun z => vote z (j : Int))).getD (x / 3) 0) ((VS x i).map (fun z => vote z (j : Int)))).1 (KingMath.step n.toNat f.toNat x (val (bt (now x i) (j : Int)), strong (bt (now x i) (j : Int))) (((VS x i).map (fun z => vote z (j : Int))).getD (x / 3) 0) ((VS x i).map (fun z => vote z (j : Int)))).2
    ∧ 0 ≤ (KingMath.step n.toNat f.toNat x (val (bt (now x i) (j : Int)), strong (bt (now x i) (j : Int))) (((VS x i).map (fun z => vote z (j : Int))).getD (x / 3) 0) ((VS x i).map (fun z => vote z (j : Int)))).1 ∧ (KingMath.step n.toNat f.toNat x (val (bt (now x i) (j : Int)), strong (bt (now x i) (j : Int))) (((VS x i).map (fun z => vote z (j : Int))).getD (x / 3) 0) ((VS x i).map (fun z => vote z (j : Int)))).1 ≤ 2 := by
  have hb := plain_facts hp
  have hl := R.len x i hx hi hh
  have hr := vec_Values_1.range (bt (now x i) (j : Int))
  have e : value (val (bt (now x i) (j : Int))) = val (bt (now x i) (j : Int)) := by
    unfold value
    rw [if_neg (by show ¬ (vec_Values_1.digit _ < 0 ∨ 2 < vec_Values_1.digit _); omega)]
  have hm := step_math n f d p r dr o s m fr t hp x (val (bt (now x i) (j : Int))) (strong (bt (now x i) (j : Int))) (vote ((VS x i).getD (x / 3) ByteArray.empty) (j : Int)) ((VS x i).map (fun z => vote z (j : Int)))
  have hk := step_range n f d p r dr o s m fr t (x : Int) (val (bt (now x i) (j : Int))) (strong (bt (now x i) (j : Int))) (vote ((VS x i).getD (x / 3) ByteArray.empty) (j : Int)) ((VS x i).map (fun z => vote z (j : Int)))
  rw [next_bt R hx hi hh hj, getD_votes _ _ (by omega)]
  rw [e] at hm
  unfold newCode
  rw [hm] at hk ⊢
  rw [show ((n.toNat : Nat) : Int) = n by omega, show ((f.toNat : Nat) : Int) = f by omega]
  exact ⟨rfl, hk⟩
theorem place_run (hp : plain n f d p r dr o s m fr t = 0) (R : VRun n f d p r dr o s m fr t F w now VS) {j : Nat} (hj : j < w) : KingMath.Run n.toNat f.toNat (hon F)
    (fun x i => (val (bt (now x i) (j : Int)), strong (bt (now x i) (j : Int)))) (fun x i => (VS x i).map (fun z => vote z (j : Int))) := by
  refine ⟨fun x hx => ⟨fun i hi hh => ?_, fun i k hi hh hk hhk => ?_⟩, fun x i hx hi hh => ?_⟩
  · show ((VS x i).map (fun z => vote z (j : Int))).length = n.toNat
    rw [List.length_map]
    exact R.len x i hx hi hh
  · show ((VS x i).map (fun z => vote z (j : Int))).getD k 0 = val (bt (now x k) (j : Int))
    rw [getD_votes _ _ (by rw [R.len x i hx hi hh]; exact hk), R.own x i k hx hi hh hk hhk]
    exact vote_values _ (by rw [R.size x k (by omega) hk hhk]; exact hj)
  · obtain ⟨h, h2⟩ := next_step hp R hx hi hh hj
    have hv := val_code _ (KingMath.step n.toNat f.toNat x (val (bt (now x i) (j : Int)), strong (bt (now x i) (j : Int))) (((VS x i).map (fun z => vote z (j : Int))).getD (x / 3) 0) ((VS x i).map (fun z => vote z (j : Int)))).2 h2
    rw [← h] at hv
    exact Prod.ext hv.1 hv.2
theorem ends (hp : plain n f d p r dr o s m fr t = 0) (R : VRun n f d p r dr o s m fr t F w now VS) {i j : Nat} (hi : i < n.toNat) (hh : hon F i = true) (hj : j < w) :
    bt (now (3 * (f.toNat + 1)) i) (j : Int) = 48 + val (bt (now (3 * (f.toNat + 1)) i) (j : Int)) := by
  obtain ⟨h, h2⟩ := next_step hp R (x := 3 * f.toNat + 2) (by omega) hi hh hj
  have hv := val_code _ (KingMath.step n.toNat f.toNat (3 * f.toNat + 2) (val (bt (now (3 * f.toNat + 2) i) (j : Int)), strong (bt (now (3 * f.toNat + 2) i) (j : Int))) (((VS (3 * f.toNat + 2) i).map (fun z => vote z (j : Int))).getD ((3 * f.toNat + 2) / 3) 0) ((VS (3 * f.toNat + 2) i).map (fun z => vote z (j : Int)))).2 h2
  have hf : (KingMath.step n.toNat f.toNat (3 * f.toNat + 2) (val (bt (now (3 * f.toNat + 2) i) (j : Int)), strong (bt (now (3 * f.toNat + 2) i) (j : Int))) (((VS (3 * f.toNat + 2) i).map (fun z => vote z (j : Int))).getD ((3 * f.toNat + 2) / 3) 0) ((VS (3 * f.toNat + 2) i).map (fun z => vote z (j : Int)))).2 = false := by
    unfold KingMath.step
    rw [if_neg (by omega), if_neg (by omega)]
    split <;> rfl
  rw [← h] at hv
  rw [show 3 * (f.toNat + 1) = 3 * f.toNat + 2 + 1 by omega, hv.1, h, hf]
  unfold code
  rw [if_neg (by decide)]
  unfold value
  rw [if_neg (by omega)]
theorem vec_agrees (hp : plain n f d p r dr o s m fr t = 0) (hf : KingMath.bad n.toNat (hon F) ≤ f.toNat) (R : VRun n f d p r dr o s m fr t F w now VS) {j : Nat} (hj : j < w) :
    ∃ v : Int, (v = 0 ∨ v = 1) ∧ ∀ i, i < n.toNat → hon F i = true → bt (now (3 * (f.toNat + 1)) i) (j : Int) = 48 + v := by
  have hb := plain_facts hp
  obtain ⟨v, hv, h⟩ := KingMath.agrees hf (by omega) (place_run hp R hj)
  refine ⟨v, hv, fun i hi hh => ?_⟩
  rw [ends hp R hi hh hj]
  have := h i hi hh
  dsimp only at this
  rw [this]
theorem vec_keeps (hp : plain n f d p r dr o s m fr t = 0) (hf : KingMath.bad n.toNat (hon F) ≤ f.toNat) (R : VRun n f d p r dr o s m fr t F w now VS) {j : Nat} (hj : j < w) {v : Int} (hv : v = 0 ∨ v = 1)
    (h0 : ∀ i, i < n.toNat → hon F i = true → val (bt (now 0 i) (j : Int)) = v) : ∀ i, i < n.toNat → hon F i = true → bt (now (3 * (f.toNat + 1)) i) (j : Int) = 48 + v := by
  have hb := plain_facts hp
  intro i hi hh
  have h := KingMath.keeps hf (by omega) (place_run hp R hj) hv h0 i hi hh
  dsimp only at h
  rw [ends hp R hi hh hj, h]
end
end Go.Proofs.Ythblnnboeikgcaa.VecLib
