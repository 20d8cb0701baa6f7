import Derived.WalkKit
set_option linter.unusedVariables false
set_option linter.unusedSimpArgs false
namespace Go.Proofs.Ythblnnboeikgcaa.KingMath
def cnt (v : Int) (l : List Int) : Int := (l.count v : Nat)
def most (n f : Int) (l : List Int) : Int := if n - f ≤ cnt 1 l then 1 else if n - f ≤ cnt 0 l then 0 else 2
def least (f now : Int) (l : List Int) : Int := if f + 1 ≤ cnt 0 l then 0 else if f + 1 ≤ cnt 1 l then 1 else if f + 1 ≤ cnt 2 l then 2 else now
def told (k : Int) : Int := if k = 1 ∨ k = 2 then 1 else 0
def step (n f : Int) (x : Nat) (b : Int × Bool) (king : Int) (l : List Int) : Int × Bool :=
  if x % 3 = 0 then (most n f l, false)
  else if x % 3 = 1 then (least f b.1 l, decide (n - f ≤ cnt (least f b.1 l) l))
  else if b.1 = 2 ∨ b.2 = false then (told king, false) else (b.1, false)
theorem countP_or {α : Type} (p q : α → Bool) (l : List α) : l.countP (fun x => p x || q x) ≤ l.countP p + l.countP q := by
  induction l with
  | nil => simp
  | cons a l ih =>
    simp only [List.countP_cons]
    cases p a <;> cases q a <;> simp <;> omega
theorem countP_le {α : Type} {p q : α → Bool} {l : List α} (h : ∀ x ∈ l, p x = true → q x = true) : l.countP p ≤ l.countP q := List.countP_mono_left h
theorem countP_apart {α : Type} (p q : α → Bool) (l : List α) (h : ∀ x ∈ l, ¬ (p x = true ∧ q x = true)) : l.countP p + l.countP q ≤ l.length := by
  have h1 := List.length_eq_countP_add_countP p (l := l)
  have h2 : l.countP q ≤ l.countP (fun a => decide (¬ p a = true)) := countP_le (fun x hx hq => by
    have := h x hx
    simp only [decide_eq_true_eq]
    exact fun hp => this ⟨hp, hq⟩)
  omega
theorem count_range (v : Int) (l : List Int) : l.count v = (List.range l.length).countP (fun k => decide (l.getD k 0 = v)) := by
  have e : l = (List.range l.length).map (fun k => l.getD k 0) := by
    refine List.ext_getElem (by simp) (fun i h1 h2 => ?_)
    simp [List.getD_eq_getElem?_getD, h1]
  conv => lhs; rw [e]
  rw [List.count, List.countP_map]
  refine List.countP_congr (fun x _ => ?_)
  simp
section
variable (n f : Nat) (hon : Nat → Bool)
def have_ (val : Nat → Int) (v : Int) : Nat := (List.range n).countP (fun k => hon k && decide (val k = v))
def bad : Nat := (List.range n).countP (fun k => !hon k)
theorem votes_ge {n : Nat} {hon : Nat → Bool} {val : Nat → Int} {l : List Int} (hl : l.length = n) (h : ∀ k, k < n → hon k = true → l.getD k 0 = val k) (v : Int) : (have_ n hon val v : Int) ≤ cnt v l := by
  unfold cnt have_
  rw [count_range, hl]
  have := countP_le (l := List.range n) (p := fun k => hon k && decide (val k = v)) (q := fun k => decide (l.getD k 0 = v)) (fun x hx hp => by
    simp only [Bool.and_eq_true, decide_eq_true_eq] at hp ⊢
    rw [h x (List.mem_range.1 hx) hp.1]
    exact hp.2)
  omega
theorem votes_le {n : Nat} {hon : Nat → Bool} {val : Nat → Int} {l : List Int} (hl : l.length = n) (h : ∀ k, k < n → hon k = true → l.getD k 0 = val k) (v : Int) : cnt v l ≤ have_ n hon val v + bad n hon := by
  unfold cnt have_ bad
  rw [count_range, hl]
  have h1 := countP_le (l := List.range n) (p := fun k => decide (l.getD k 0 = v)) (q := fun k => (hon k && decide (val k = v)) || !hon k) (fun x hx hp => by
    cases hh : hon x with
    | false => simp
    | true =>
      rw [← h x (List.mem_range.1 hx) hh]
      simpa using hp)
  have h2 := countP_or (fun k => hon k && decide (val k = v)) (fun k => !hon k) (List.range n)
  omega
theorem have_apart {val : Nat → Int} {v w : Int} (hvw : v ≠ w) : have_ n hon val v + have_ n hon val w + bad n hon ≤ n := by
  unfold have_ bad
  have h1 := countP_apart (fun k => hon k && decide (val k = v)) (fun k => hon k && decide (val k = w) || !hon k) (List.range n) (fun x _ h => by
    simp only [Bool.and_eq_true, Bool.or_eq_true, decide_eq_true_eq, Bool.not_eq_true'] at h
    obtain ⟨⟨a, b⟩, c | c⟩ := h
    · exact hvw (b.symm.trans c.2)
    · rw [a] at c; cases c)
  have h2 : (List.range n).countP (fun k => hon k && decide (val k = w) || !hon k) = (List.range n).countP (fun k => hon k && decide (val k = w)) + (List.range n).countP (fun k => !hon k) := by
    generalize List.range n = l
    induction l with
    | nil => rfl
    | cons a l ih =>
      simp only [List.countP_cons, ih]
      cases hon a <;> simp <;> omega
  rw [List.length_range] at h1
  omega
theorem have_all {val : Nat → Int} {v : Int} (h : ∀ k, k < n → hon k = true → val k = v) : have_ n hon val v + bad n hon = n := by
  unfold have_ bad
  have h2 : (List.range n).countP (fun k => hon k && decide (val k = v)) = (List.range n).countP hon := by
    refine List.countP_congr (fun x hx => ?_)
    simp only [Bool.and_eq_true, decide_eq_true_eq]
    exact ⟨fun q => q.1, fun q => ⟨q, h x (List.mem_range.1 hx) q⟩⟩
  have h3 := List.length_eq_countP_add_countP hon (l := List.range n)
  rw [List.length_range] at h3
  have h4 : (List.range n).countP (fun k => !hon k) = (List.range n).countP (fun a => decide (¬ hon a = true)) := List.countP_congr (fun x _ => by simp)
  omega
theorem have_none {val : Nat → Int} {v : Int} (h : ∀ k, k < n → hon k = true → val k ≠ v) : have_ n hon val v = 0 := by
  unfold have_
  rw [List.countP_eq_zero]
  intro x hx
  simp only [Bool.and_eq_true, decide_eq_true_eq, not_and]
  exact h x (List.mem_range.1 hx)
structure Told (val : Nat → Int) (l : Nat → List Int) : Prop where
  len : ∀ i, i < n → hon i = true → (l i).length = n
  own : ∀ i k, i < n → hon i = true → k < n → hon k = true → (l i).getD k 0 = val k
variable {n f hon}
variable (hf : bad n hon ≤ f) (hn : 3 * f < n)
include hf hn
theorem first_one {val : Nat → Int} {l : Nat → List Int} (T : Told n hon val l) : ∃ w : Int, (w = 0 ∨ w = 1) ∧ ∀ i, i < n → hon i = true → most n f (l i) = w ∨ most n f (l i) = 2 := by
  by_cases h : ∃ i, i < n ∧ hon i = true ∧ most n f (l i) = 1
  · obtain ⟨i, hi, hh, h1⟩ := h
    refine ⟨1, .inr rfl, fun j hj hhj => ?_⟩
    have a := votes_le (T.len i hi hh) (fun k hk hhk => T.own i k hi hh hk hhk) 1
    have b := votes_le (T.len j hj hhj) (fun k hk hhk => T.own j k hj hhj hk hhk) 0
    have c := have_apart n hon (val := val) (v := 1) (w := 0) (by decide)
    have d : (n : Int) - f ≤ cnt 1 (l i) := by
      unfold most at h1
      split at h1
      · assumption
      · split at h1 <;> cases h1
    unfold most
    split
    · exact .inl rfl
    · rw [if_neg (by omega)]
      exact .inr rfl
  · refine ⟨0, .inl rfl, fun j hj hhj => ?_⟩
    have := fun q => h ⟨j, hj, hhj, q⟩
    unfold most at this ⊢
    split
    · rename_i h1
      rw [if_pos h1] at this
      exact absurd rfl this
    · split
      · exact .inl rfl
      · exact .inr rfl
theorem second_one {val : Nat → Int} {l : Nat → List Int} {w : Int} (hw : w = 0 ∨ w = 1) (hv : ∀ i, i < n → hon i = true → val i = w ∨ val i = 2) (T : Told n hon val l) :
    (∀ i, i < n → hon i = true → least f (val i) (l i) = w ∨ least f (val i) (l i) = 2) ∧
    ((∃ i, i < n ∧ hon i = true ∧ least f (val i) (l i) = w ∧ (n : Int) - f ≤ cnt w (l i)) → ∀ i, i < n → hon i = true → least f (val i) (l i) = w) := by
  have other : ∀ u, u ≠ w → u ≠ 2 → ∀ i, i < n → hon i = true → cnt u (l i) ≤ f := fun u h1 h2 i hi hh => by
    have a := votes_le (T.len i hi hh) (fun k hk hhk => T.own i k hi hh hk hhk) u
    have b := have_none n hon (val := val) (v := u) (fun k hk hhk => by
      rcases hv k hk hhk with e | e <;> rw [e]
      · exact fun q => h1 q.symm
      · exact fun q => h2 q.symm)
    omega
  refine ⟨fun i hi hh => ?_, ?_⟩
  · unfold least
    rcases hw with rfl | rfl
    · have o := other 1 (by decide) (by decide) i hi hh
      split
      · exact .inl rfl
      · rw [if_neg (by omega)]
        split
        · exact .inr rfl
        · exact hv i hi hh
    · have o := other 0 (by decide) (by decide) i hi hh
      rw [if_neg (by omega)]
      split
      · exact .inl rfl
      · split
        · exact .inr rfl
        · exact hv i hi hh
  · rintro ⟨i, hi, hh, _, h1⟩ j hj hhj
    have a := votes_le (T.len i hi hh) (fun k hk hhk => T.own i k hi hh hk hhk) w
    have b := votes_ge (T.len j hj hhj) (fun k hk hhk => T.own j k hj hhj hk hhk) w
    unfold least
    rcases hw with rfl | rfl
    · rw [if_pos (by omega)]
    · have o := other 0 (by decide) (by decide) j hj hhj
      rw [if_neg (by omega), if_pos (by omega)]
theorem first_keeps {val : Nat → Int} {l : Nat → List Int} {w : Int} (hw : w = 0 ∨ w = 1) (hv : ∀ i, i < n → hon i = true → val i = w) (T : Told n hon val l) (i : Nat) (hi : i < n) (hh : hon i = true) : most n f (l i) = w := by
  have a := votes_ge (T.len i hi hh) (fun k hk hhk => T.own i k hi hh hk hhk) w
  have b := have_all n hon hv
  unfold most
  rcases hw with rfl | rfl
  · have c := votes_le (T.len i hi hh) (fun k hk hhk => T.own i k hi hh hk hhk) 1
    have d := have_none n hon (val := val) (v := 1) (fun k hk hhk => by rw [hv k hk hhk]; decide)
    rw [if_neg (by omega), if_pos (by omega)]
  · rw [if_pos (by omega)]
theorem second_keeps {val : Nat → Int} {l : Nat → List Int} {w : Int} (hw : w = 0 ∨ w = 1) (hv : ∀ i, i < n → hon i = true → val i = w) (T : Told n hon val l) (i : Nat) (hi : i < n) (hh : hon i = true) : least f (val i) (l i) = w ∧ (n : Int) - f ≤ cnt w (l i) := by
  have a := votes_ge (T.len i hi hh) (fun k hk hhk => T.own i k hi hh hk hhk) w
  have b := have_all n hon hv
  refine ⟨?_, by omega⟩
  unfold least
  rcases hw with rfl | rfl
  · rw [if_pos (by omega)]
  · have c := votes_le (T.len i hi hh) (fun k hk hhk => T.own i k hi hh hk hhk) 0
    have d := have_none n hon (val := val) (v := 0) (fun k hk hhk => by rw [hv k hk hhk]; decide)
    rw [if_neg (by omega), if_pos (by omega)]
end
structure Run (n f : Nat) (hon : Nat → Bool) (s : Nat → Nat → Int × Bool) (vt : Nat → Nat → List Int) : Prop where
  told : ∀ x, x < 3 * (f + 1) → Told n hon (fun k => (s x k).1) (vt x)
  next : ∀ x i, x < 3 * (f + 1) → i < n → hon i = true → s (x + 1) i = step n f x (s x i) ((vt x i).getD (x / 3) 0) (vt x i)
section
variable {n f : Nat} {hon : Nat → Bool} {s : Nat → Nat → Int × Bool} {vt : Nat → Nat → List Int}
theorem phase_keeps (hf : bad n hon ≤ f) (hn : 3 * f < n) (R : Run n f hon s vt) {p : Nat} (hp : p < f + 1) {w : Int} (hw : w = 0 ∨ w = 1) (hv : ∀ i, i < n → hon i = true → (s (3 * p) i).1 = w) : ∀ i, i < n → hon i = true → (s (3 * p + 3) i).1 = w := by
  have h1 : ∀ i, i < n → hon i = true → (s (3 * p + 1) i).1 = w := fun i hi hh => by
    rw [R.next _ i (by omega) hi hh]
    unfold step
    rw [if_pos (by omega)]
    exact first_keeps hf hn hw hv (R.told (3 * p) (by omega)) i hi hh
  have h2 : ∀ i, i < n → hon i = true → s (3 * p + 2) i = (w, true) := fun i hi hh => by
    rw [R.next (3 * p + 1) i (by omega) hi hh]
    unfold step
    rw [if_neg (by omega), if_pos (by omega)]
    obtain ⟨a, b⟩ := second_keeps hf hn hw h1 (R.told (3 * p + 1) (by omega)) i hi hh
    rw [a, decide_eq_true b]
  intro i hi hh
  rw [R.next (3 * p + 2) i (by omega) hi hh, h2 i hi hh]
  unfold step
  rw [if_neg (by omega), if_neg (by omega), if_neg (by rcases hw with rfl | rfl <;> simp)]
theorem phases_keep (hf : bad n hon ≤ f) (hn : 3 * f < n) (R : Run n f hon s vt) {w : Int} (hw : w = 0 ∨ w = 1) (q : Nat) : ∀ p, p + q ≤ f + 1 → (∀ i, i < n → hon i = true → (s (3 * p) i).1 = w) → ∀ i, i < n → hon i = true → (s (3 * (p + q)) i).1 = w := by
  induction q with
  | zero => intro p _ h; exact h
  | succ q ih =>
    intro p hp h
    have := ih (p + 1) (by omega) (by rw [show 3 * (p + 1) = 3 * p + 3 by omega]; exact phase_keeps hf hn R (by omega) hw h)
    rw [show p + (q + 1) = p + 1 + q by omega]
    exact this
theorem phase_agrees (hf : bad n hon ≤ f) (hn : 3 * f < n) (R : Run n f hon s vt) {p : Nat} (hp : p < f + 1) (hk : hon p = true) : ∃ w : Int, (w = 0 ∨ w = 1) ∧ ∀ i, i < n → hon i = true → (s (3 * p + 3) i).1 = w := by
  obtain ⟨w, hw, h1⟩ := first_one hf hn (R.told (3 * p) (by omega))
  have g1 : ∀ i, i < n → hon i = true → (s (3 * p + 1) i).1 = w ∨ (s (3 * p + 1) i).1 = 2 := fun i hi hh => by
    rw [R.next _ i (by omega) hi hh]
    unfold step
    rw [if_pos (by omega)]
    exact h1 i hi hh
  obtain ⟨h2, h3⟩ := second_one hf hn hw g1 (R.told (3 * p + 1) (by omega))
  have e2 : ∀ i, i < n → hon i = true → s (3 * p + 2) i = (least f (s (3 * p + 1) i).1 (vt (3 * p + 1) i), decide ((n : Int) - f ≤ cnt (least f (s (3 * p + 1) i).1 (vt (3 * p + 1) i)) (vt (3 * p + 1) i))) := fun i hi hh => by
    rw [R.next (3 * p + 1) i (by omega) hi hh]
    unfold step
    rw [if_neg (by omega), if_pos (by omega)]
  have T := R.told (3 * p + 2) (by omega)
  have kv : ∀ i, i < n → hon i = true → (vt (3 * p + 2) i).getD p 0 = (s (3 * p + 2) p).1 := fun i hi hh => T.own i p hi hh (by omega) hk
  have e3 : ∀ i, i < n → hon i = true → (s (3 * p + 3) i).1 = if (s (3 * p + 2) i).1 = 2 ∨ (s (3 * p + 2) i).2 = false then KingMath.told (s (3 * p + 2) p).1 else (s (3 * p + 2) i).1 := fun i hi hh => by
    rw [R.next (3 * p + 2) i (by omega) hi hh]
    unfold step
    rw [if_neg (by omega), if_neg (by omega), show (3 * p + 2) / 3 = p by omega, kv i hi hh]
    split <;> rfl
  by_cases hs : ∃ i, i < n ∧ hon i = true ∧ ¬ ((s (3 * p + 2) i).1 = 2 ∨ (s (3 * p + 2) i).2 = false)
  · obtain ⟨i, hi, hh, hx⟩ := hs
    have ex := e2 i hi hh
    have hx1 : least f (s (3 * p + 1) i).1 (vt (3 * p + 1) i) = w := by
      rcases h2 i hi hh with e | e
      · exact e
      · exact absurd (.inl (by rw [ex]; exact e)) hx
    have all := h3 ⟨i, hi, hh, hx1, by
      have : (s (3 * p + 2) i).2 = true := by
        cases hb : (s (3 * p + 2) i).2 with
        | true => rfl
        | false => exact absurd (.inr hb) hx
      rw [ex, hx1] at this
      simpa using this⟩
    have all2 : ∀ j, j < n → hon j = true → (s (3 * p + 2) j).1 = w := fun j hj hhj => by rw [e2 j hj hhj]; exact all j hj hhj
    refine ⟨w, hw, fun j hj hhj => ?_⟩
    rw [e3 j hj hhj, all2 p (by omega) hk, all2 j hj hhj]
    split
    · rcases hw with rfl | rfl <;> rfl
    · rfl
  · refine ⟨KingMath.told (s (3 * p + 2) p).1, by unfold KingMath.told; split <;> simp, fun j hj hhj => ?_⟩
    rw [e3 j hj hhj, if_pos]
    exact Decidable.byContradiction fun q => hs ⟨j, hj, hhj, q⟩
theorem some_king (hf : bad n hon ≤ f) (hn : 3 * f < n) : ∃ p, p < f + 1 ∧ hon p = true := by
  refine Decidable.byContradiction fun h => ?_
  have hb : ∀ p, p < f + 1 → hon p = false := fun p hp => by
    cases e : hon p with
    | false => rfl
    | true => exact absurd ⟨p, hp, e⟩ h
  have h1 : (List.range (f + 1)).countP (fun k => !hon k) = f + 1 := by
    have : (List.range (f + 1)).countP (fun k => !hon k) = (List.range (f + 1)).length := List.countP_eq_length.2 (fun x hx => by rw [hb x (List.mem_range.1 hx)]; rfl)
    rw [this, List.length_range]
  have h2 : (List.range (f + 1)).countP (fun k => !hon k) ≤ (List.range n).countP (fun k => !hon k) :=
    List.Sublist.countP_le (by
      have : List.range n = List.range (f + 1) ++ (List.range (n - (f + 1))).map (f + 1 + ·) := by
        have := List.range_add (n := f + 1) (m := n - (f + 1))
        rwa [show f + 1 + (n - (f + 1)) = n by omega] at this
      rw [this]
      exact List.sublist_append_left _ _)
  unfold bad at hf
  omega
theorem agrees (hf : bad n hon ≤ f) (hn : 3 * f < n) (R : Run n f hon s vt) : ∃ w : Int, (w = 0 ∨ w = 1) ∧ ∀ i, i < n → hon i = true → (s (3 * (f + 1)) i).1 = w := by
  obtain ⟨p, hp, hk⟩ := some_king hf hn
  obtain ⟨w, hw, h⟩ := phase_agrees hf hn R hp hk
  refine ⟨w, hw, ?_⟩
  have := phases_keep hf hn R hw (f + 1 - (p + 1)) (p + 1) (by omega) (by rw [show 3 * (p + 1) = 3 * p + 3 by omega]; exact h)
  rwa [show p + 1 + (f + 1 - (p + 1)) = f + 1 by omega] at this
theorem keeps (hf : bad n hon ≤ f) (hn : 3 * f < n) (R : Run n f hon s vt) {w : Int} (hw : w = 0 ∨ w = 1) (h : ∀ i, i < n → hon i = true → (s 0 i).1 = w) : ∀ i, i < n → hon i = true → (s (3 * (f + 1)) i).1 = w := by
  have := phases_keep hf hn R hw (f + 1) 0 (by omega) h
  rwa [Nat.zero_add] at this
end
end Go.Proofs.Ythblnnboeikgcaa.KingMath
