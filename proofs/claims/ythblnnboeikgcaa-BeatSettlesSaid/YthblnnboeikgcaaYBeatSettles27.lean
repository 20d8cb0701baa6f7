import Derived.Test.YthblnnboeikgcaaYBeatSettles23
import Derived.Test.YthblnnboeikgcaaYBeatSettles24
import Derived.Test.YthblnnboeikgcaaYBeatSettles25
import Derived.Test.YthblnnboeikgcaaYBeatSettles26
import Derived.Laws.MakeOwn
section
set_option linter.unusedVariables false
set_option linter.unusedSimpArgs false
set_option linter.unusedSectionVars false
namespace Go.Proofs.Ythblnnboeikgcaa.KingLib
open Go.RowKit Go.Proofs.Ythblnnboeikgcaa.B Go.Proofs.YthblnnboeikgcaaW.PrintWords Go.Proofs.YthblnnboeikgcaaW.PrintMore Go.Proofs.Ythblnnboeikgcaa.ConfLib Go.Proofs.Ythblnnboeikgcaa.TallyLib
theorem Ev.from {α : Type} {g : Nat → Option α} {r : α} (K : Nat) (h : ∀ k, K < k → g k = some r) : Ev g r := ⟨K + 1, fun k hk => h k (by omega)⟩
theorem Ev.pos {α : Type} {c : Prop} [Decidable c] {g f : Nat → Option α} {r : α} (h : c) (k : Ev g r) : Ev (fun n => if c then g n else f n) r := Ev.congr (fun _ => if_pos h) k
theorem Ev.neg {α : Type} {c : Prop} [Decidable c] {g f : Nat → Option α} {r : α} (h : ¬ c) (k : Ev f r) : Ev (fun n => if c then g n else f n) r := Ev.congr (fun _ => if_neg h) k
theorem Ev.some_ {α β : Type} {a : Option α} {x : α} {f : Nat → α → Option β} {r : β} (h : a = some x) (k : Ev (fun n => f n x) r) : Ev (fun n => a.bind (f n)) r := by
  subst h
  exact k
theorem Ev.val {α : Type} {a b : α} (h : a = b) : Ev (fun _ => some a) b := ⟨0, fun _ _ => by rw [h]⟩
def value (v : Int) : Int := if v < 0 ∨ 2 < v then 2 else v
theorem value_range (v : Int) : 0 ≤ value v ∧ value v ≤ 2 := by unfold value; split <;> omega
theorem value_at (v : Int) (b : Bool) : king_value.f v b = some (value v) := by
  unfold king_value.f value
  by_cases h1 : v < 0
  · rw [if_pos h1, if_pos (.inl h1)]
  · by_cases h2 : v > 2
    · rw [if_neg h1, if_pos h2, if_pos (.inr h2)]
    · rw [if_neg h1, if_neg h2, if_neg (by omega)]
theorem tmod3 (a : Int) : (if Int.tmod a 3 < 0 then some (wrap64 (Int.tmod a 3 + 3)) else some (Int.tmod a 3)) = some (a % 3) := by
  have h : Int.tmod a 3 = if 0 ≤ a then a % 3 else -((-a) % 3) := by
    split
    · exact Int.tmod_eq_emod_of_nonneg ‹_›
    · have := Int.neg_tmod (-a) 3
      rw [Int.neg_neg] at this
      rw [this, Int.tmod_eq_emod_of_nonneg (by omega)]
  rw [h]
  by_cases h0 : 0 ≤ a
  · rw [if_pos h0, if_neg (by omega)]
  · rw [if_neg h0]
    by_cases h1 : -((-a) % 3) < 0
    · rw [if_pos h1, ConfLib.wrap_small (by omega) (by omega)]
      congr 1
      omega
    · rw [if_neg h1]
      congr 1
      omega
theorem mod_at (a : Int) : num_Mod.f a 3 = some (a % 3) := by
  unfold num_Mod.f
  rw [if_neg (by decide), if_neg (by decide)]
  exact tmod3 a
theorem heard_at (a : Int) : king_heard.f a = some (KingMath.told a) := by
  unfold king_heard.f KingMath.told
  by_cases h1 : a = 1
  · rw [if_pos h1, if_pos (.inl h1)]
  · by_cases h2 : a = 2
    · rw [if_neg h1, if_pos h2, if_pos (.inr h2)]
    · rw [if_neg h1, if_neg h2, if_neg (by omega)]
theorem told_at (a : Int) : r14told.f a = some (KingMath.told a) := by
  unfold r14told.f KingMath.told
  by_cases h1 : a = 1
  · rw [if_pos h1, if_pos (.inl h1)]
  · by_cases h2 : a = 2
    · rw [if_neg h1, if_pos h2, if_pos (.inr h2)]
    · rw [if_neg h1, if_neg h2, if_neg (by omega)]
section
variable (n f d p r dr o s m fr : Int) (t : List Int)
def step (x b0 : Int) (b1 : Bool) (king : Int) (l : List Int) : Int × Bool :=
  if x % 3 = 0 then (M n f d p r dr o s m fr t l, false)
  else if x % 3 = 1 then (L n f d p r dr o s m fr t (value b0) l, E n f d p r dr o s m fr t (L n f d p r dr o s m fr t (value b0) l) l)
  else if value b0 = 2 ∨ b1 = false then (KingMath.told king, false) else (value b0, false)
theorem step_at (x b0 : Int) (b1 : Bool) (king : Int) (l : List Int) (hl : l.length ≤ 1000000) {k : Nat} (hk : 10 < k) : king_Step.f k n f d p r dr o s m fr t x b0 b1 king l = some (step n f d p r dr o s m fr t x b0 b1 king l) := by
  unfold king_Step.f step
  rw [value_at, mod_at, most_at n f d p r dr o s m fr t l hl hk]
  simp only [Option.bind_some]
  by_cases h0 : x % 3 = 0
  · rw [if_pos h0, if_pos h0]
  rw [if_neg h0, if_neg h0]
  by_cases h1 : x % 3 = 1
  · rw [if_pos h1, if_pos h1, least_at n f d p r dr o s m fr t (value b0) l hl hk]
    simp only [Option.bind_some]
    rw [enough_at n f d p r dr o s m fr t _ l hl hk]
    rfl
  rw [if_neg h1, if_neg h1, heard_at]
  simp only [Option.bind_some]
  by_cases h2 : value b0 = 2
  · rw [if_pos h2, if_pos (.inl h2)]
  · rw [if_neg h2]
    cases b1 with
    | true => rw [if_pos rfl, if_neg (by simp [h2])]
    | false => rw [if_neg (by decide), if_pos (.inr rfl)]
theorem L_range (v : Int) (l : List Int) (hv : 0 ≤ v ∧ v ≤ 2) : 0 ≤ L n f d p r dr o s m fr t v l ∧ L n f d p r dr o s m fr t v l ≤ 2 := by
  unfold L
  repeat' split
  all_goals omega
theorem M_range (l : List Int) : 0 ≤ M n f d p r dr o s m fr t l ∧ M n f d p r dr o s m fr t l ≤ 2 := by
  unfold M
  repeat' split
  all_goals omega
theorem told_range (a : Int) : 0 ≤ KingMath.told a ∧ KingMath.told a ≤ 1 := by unfold KingMath.told; split <;> omega
theorem step_range (x b0 : Int) (b1 : Bool) (king : Int) (l : List Int) : 0 ≤ (step n f d p r dr o s m fr t x b0 b1 king l).1 ∧ (step n f d p r dr o s m fr t x b0 b1 king l).1 ≤ 2 := by
  have h1 := M_range n f d p r dr o s m fr t l
  have h2 := L_range n f d p r dr o s m fr t (value b0) l (value_range b0)
  have h3 := told_range king
  have h4 := value_range b0
  unfold step
  repeat' split
  all_goals (dsimp only; omega)
theorem step_math (hp : plain n f d p r dr o s m fr t = 0) (x : Nat) (b0 : Int) (b1 : Bool) (king : Int) (l : List Int) : step n f d p r dr o s m fr t (x : Int) b0 b1 king l = KingMath.step n f x (value b0, b1) king l := by
  have hM : M n f d p r dr o s m fr t l = KingMath.most n f l := by
    unfold M KingMath.most KingMath.cnt C
    rw [if_pos hp]
    rfl
  have hL : L n f d p r dr o s m fr t (value b0) l = KingMath.least f (value b0) l := by
    unfold L KingMath.least KingMath.cnt C
    rw [if_pos hp]
    rfl
  have hr := L_range n f d p r dr o s m fr t (value b0) l (value_range b0)
  unfold step KingMath.step
  by_cases h0 : (x : Int) % 3 = 0
  · rw [if_pos h0, if_pos (show x % 3 = 0 by omega), hM]
  rw [if_neg h0, if_neg (show ¬ x % 3 = 0 by omega)]
  by_cases h1 : (x : Int) % 3 = 1
  · rw [if_pos h1, if_pos (show x % 3 = 1 by omega)]
    refine Prod.ext hL ?_
    dsimp only
    rw [← hL]
    generalize L n f d p r dr o s m fr t (value b0) l = y at hr
    unfold E C KingMath.cnt
    rw [if_neg (by omega)]
    exact decide_eq_decide.2 ⟨fun h => h.2, fun h => ⟨hp, h⟩⟩
  rw [if_neg h1, if_neg (show ¬ x % 3 = 1 by omega)]
end
def code (v : Int) (b : Bool) : Int := if b = true then value v + 3 else value v
theorem code_range (v : Int) (b : Bool) : 0 ≤ code v b ∧ code v b ≤ 5 := by
  have := value_range v
  unfold code
  split <;> omega
theorem code_at (v : Int) (b : Bool) : king_Code.f v b = some (code v b) := by
  have := value_range v
  unfold king_Code.f code
  rw [value_at]
  simp only [Option.bind_some]
  split
  · rw [ConfLib.wrap_small (by omega) (by omega)]
  · rfl
def read (a : Int) : Int × Bool := if a < 0 ∨ 5 < a then (2, false) else (a % 3, decide (3 ≤ a))
theorem read_at (a : Int) : king_Read.f a = some (read a) := by
  unfold king_Read.f read
  by_cases h1 : a < 0
  · rw [if_pos h1, if_pos (.inl h1)]
  · by_cases h2 : a ≥ 6
    · rw [if_neg h1, if_pos h2, if_pos (.inr (by omega))]
    · rw [if_neg h1, if_neg h2, if_neg (by omega), Int.tmod_eq_emod_of_nonneg (by omega)]
def start (a : Int) : Int × Bool := if a = 1 then (1, false) else (0, false)
theorem start_at (a : Int) : king_Start.f a = some (start a) := by
  unfold king_Start.f start
  split <;> rfl
theorem in_ev (l : List Int) (hl : l.length ≤ 1000000) (v : Int) : Ev (fun k => r14In.f k l v) (l.contains v) := by
  have key : ∀ (q i : Nat), i + q = l.length → Ev (fun k => r14In.l0 k l v (i : Int)) ((l.drop i).contains v) := by
    intro q
    induction q with
    | zero =>
      intro i hi
      refine Ev.step (fun k => r14In.l0.eq_2 ..) ?_
      refine Ev.neg (by omega) (Ev.val ?_)
      rw [List.drop_of_length_le (by omega)]
      rfl
    | succ q ih =>
      intro i hi
      have hlt : i < l.length := by omega
      have hrd : rd l (i : Int) = l[i] := by simp [rd, List.getD_eq_getElem?_getD, hlt]
      refine Ev.step (fun k => r14In.l0.eq_2 ..) ?_
      refine Ev.pos (by omega) (Ev.pos (by omega) ?_)
      rw [List.drop_eq_getElem_cons hlt, List.contains_cons, hrd]
      by_cases h : l[i] = v
      · refine Ev.pos h (Ev.val ?_)
        rw [h, beq_self_eq_true, Bool.true_or]
      · have h2 : (v == l[i]) = false := by simpa using fun e => h (Eq.symm e)
        refine Ev.neg h ?_
        rw [h2, Bool.false_or, ConfLib.wrap_small (by omega) (by omega), show ((i : Int) + 1) = ((i + 1 : Nat) : Int) by omega]
        exact ih (i + 1) (by omega)
  have := key l.length 0 (by omega)
  rw [List.drop_zero] at this
  exact this
end Go.Proofs.Ythblnnboeikgcaa.KingLib
end
section
set_option linter.unusedVariables false
set_option linter.unusedSimpArgs false
namespace Go.Proofs.Ythblnnboeikgcaa.KW
open Go.RowKit Go.Proofs.YthblnnboeikgcaaW.PrintWords
section
variable {W : World} {e base g m cap : Nat} {ok : Nat → Prop} {k : IntKind} {xs : List Int}
theorem put_int (h : (Kd.int k).R e W base ok (.slice (some ⟨g, 0, none⟩) m cap) xs) (hm : xs.length = m) (j : Nat) (x : Int) : (Kd.int k).R e (W.setCell ⟨g, j, none⟩ (.int k x)) base ok (.slice (some ⟨g, 0, none⟩) m cap) (xs.set j x) := by
  subst hm
  have := (Kd.R_put (enc := Value.int k) (h1 := fun _ => rfl) h (j : Int) x).1
  rwa [Int.toNat_natCast] at this
theorem get_int (h : (Kd.int k).R e W base ok (.slice (some ⟨g, 0, none⟩) m cap) xs) (hm : xs.length = m) {j : Nat} (hj : j < m) : W.cell? ⟨g, j, none⟩ = some (.int k (rd xs (j : Int))) ∧ W.frozen? ⟨g, j, none⟩ = false := by
  subst hm
  have := Kd.R_cell (enc := Value.int k) (h1 := fun _ => rfl) (0 : Int) h (j : Int) (by omega) (by omega)
  rwa [Int.toNat_natCast] at this
end
def part {α : Type} (z : α) (V : List α) (m j : Nat) : List α := V.take j ++ List.replicate (m - j) z
theorem part_len {α : Type} {z : α} {V : List α} {m j : Nat} (hV : V.length = m) (hj : j ≤ m) : (part z V m j).length = m := by
  unfold part
  rw [List.length_append, List.length_take, List.length_replicate]
  omega
theorem part_zero {α : Type} (z : α) (V : List α) (m : Nat) : part z V m 0 = List.replicate m z := by simp [part]
theorem part_all {α : Type} {z : α} {V : List α} {m : Nat} (hV : V.length = m) : part z V m m = V := by
  unfold part
  rw [Nat.sub_self, List.replicate_zero, List.append_nil, List.take_of_length_le (by omega)]
theorem part_set {α : Type} {z : α} {V : List α} {m j : Nat} (hV : V.length = m) (hj : j < m) : (part z V m j).set j (V.getD j z) = part z V m (j + 1) := by
  unfold part
  have h1 : (V.take j).length = j := by rw [List.length_take]; omega
  rw [List.set_append_right _ _ (by omega), h1, Nat.sub_self, show m - j = (m - (j + 1)) + 1 by omega, List.replicate_succ, List.set_cons_zero, List.take_succ_eq_append_getElem (by omega : j < V.length), List.append_assoc, List.singleton_append, List.getD_eq_getElem?_getD, List.getElem?_eq_getElem (by omega : j < V.length)]
  rfl
theorem part_put {α : Type} {z : α} {V : List α} {m j : Nat} {x : α} (hV : V.length = m) (hj : j < m) (hx : V.getD j z = x) : (part z V m j).set j x = part z V m (j + 1) := by
  rw [← hx]
  exact part_set hV hj
theorem getD_range {α : Type} (f : Nat → α) (z : α) {m j : Nat} (hj : j < m) : ((List.range m).map f).getD j z = f j := by
  simp [List.getD_eq_getElem?_getD, hj]
theorem drewN_below {w : World} (n : Nat) : Below w.heap.size w (w.drewN n) := pw_below_drewN (Below.refl _ _) n
end Go.Proofs.Ythblnnboeikgcaa.KW
end
