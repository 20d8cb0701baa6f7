/- What is held: what the functions come to, in lists of texts. -/
import Derived.Test.YtfdkmeokfmgfhaaConfLib2
import Derived.Test.YtfdkmeokfmgfhaaXx5
import Derived.Test.YtfdkmeokfmgfhaaXx6
import Derived.Test.YtfdkmeokfmgfhaaXx7
import Derived.Test.YtfdkmeokfmgfhaaXx9
import Derived.Test.YtfdkmeokfmgfhaaXx10
import Derived.Test.YtfdkmeokfmgfhaaXx8
import Derived.Test.YtfdkmeokfmgfhaaXx8
import Derived.Test.YtfdkmeokfmgfhaaXx14
import Derived.Test.YtfdkmeokfmgfhaaXx14
import Derived.Test.YtfdkmeokfmgfhaaXx16
import Derived.Test.YtfdkmeokfmgfhaaXx16
import Derived.Test.YtfdkmeokfmgfhaaXx15
set_option linter.unusedVariables false
set_option linter.unusedSimpArgs false
namespace Go.Proofs.Ytfdkmeokfmgfhaa.HoldLib
open Go.RowKit Go.Proofs.Ytfdkmeokfmgfhaa.X Go.Proofs.YtfdkmeokfmgfhaaW.PrintWords Go.Proofs.Ytfdkmeokfmgfhaa.ConfLib
theorem same_loop (l : List ByteArray) (hl : l.length ≤ 1000) (q : Nat) : ∀ (k i : Nat), i + q = l.length → q < k → bellwetherref12_Same.l0 k l l (i : Int) = some true := by
  induction q with
  | zero =>
    intro k i hi hk
    obtain ⟨k, rfl⟩ : ∃ m, k = m + 1 := ⟨k - 1, by omega⟩
    simp only [bellwetherref12_Same.l0]
    rw [if_neg (by omega)]
  | succ q ih =>
    intro k i hi hk
    obtain ⟨k, rfl⟩ : ∃ m, k = m + 1 := ⟨k - 1, by omega⟩
    simp only [bellwetherref12_Same.l0]
    rw [if_pos (by omega), if_pos (by omega), if_pos (by omega), if_pos trivial, ConfLib.wrap_small (by omega) (by omega), show ((i : Int) + 1) = ((i + 1 : Nat) : Int) by omega, ih k (i + 1) (by omega) (by omega)]
theorem same_at (l : List ByteArray) (hl : l.length ≤ 1000) {k : Nat} (hk : 1000 < k) : bellwetherref12_Same.f k l l = some true := by
  unfold bellwetherref12_Same.f
  rw [if_pos rfl]
  exact same_loop l hl l.length k 0 (by omega) (by omega)
section
variable (n f d p r dr o s m fr : Int) (t : List Int) (l : List ByteArray)
theorem nd_facts {n d : Int} (hn : 4 ≤ n ∧ n ≤ 13) (hd : 1 ≤ d ∧ d ≤ 4) : 4 ≤ n * d ∧ n * d ≤ 52 := by
  have hd2 : d = 1 ∨ d = 2 ∨ d = 3 ∨ d = 4 := by omega
  rcases hd2 with rfl | rfl | rfl | rfl <;> omega
/-- A list has its places. -/
def F : Bool := decide (plain n f d p r dr o s m fr t = 0 ∧ (l.length : Int) = n * d)
theorem places_at {k : Nat} (hk : 10 < k) : hold_places.f k n f d p r dr o s m fr t = some (if plain n f d p r dr o s m fr t = 0 then n * d else 0) := by
  unfold hold_places.f
  rw [plain_at n f d p r dr o s m fr t hk]
  simp only [Option.bind_some]
  by_cases h : plain n f d p r dr o s m fr t = 0
  · have hb := plain_facts h
    have hm := nd_facts (n := n) (d := d) (by omega) (by omega)
    rw [if_pos h, if_pos h, ConfLib.wrap_small (by omega) (by omega)]
  · rw [if_neg h, if_neg h]
theorem fits_at {k : Nat} (hk : 10 < k) : hold_fits.f k n f d p r dr o s m fr t l = some (F n f d p r dr o s m fr t l) := by
  unfold hold_fits.f F
  rw [places_at n f d p r dr o s m fr t hk]
  simp only [Option.bind_some]
  by_cases h : plain n f d p r dr o s m fr t = 0
  · have hb := plain_facts h
    have hm := nd_facts (n := n) (d := d) (by omega) (by omega)
    rw [if_pos h]
    by_cases e : (l.length : Int) = n * d
    · rw [if_pos (by omega), decide_eq_true ⟨h, e⟩, e, beq_self_eq_true]
    · rw [decide_eq_false (fun q => e q.2)]
      split
      · rw [beq_eq_false_iff_ne.mpr e]
      · rfl
  · rw [if_neg h, decide_eq_false (fun q => h q.1)]
    split
    · rw [beq_eq_false_iff_ne.mpr (by omega)]
    · rfl
theorem ref_fits_at {k : Nat} (hk : 700 < k) : bellwetherref12_Fits.f k n f d p r dr o s m fr t l = some (F n f d p r dr o s m fr t l) := by
  unfold bellwetherref12_Fits.f F
  rw [ref_plain_at n f d p r dr o s m fr t hk]
  simp only [Option.bind_some]
  by_cases h : plain n f d p r dr o s m fr t = 0
  · have hb := plain_facts h
    have hm := nd_facts (n := n) (d := d) (by omega) (by omega)
    rw [if_pos h, ConfLib.wrap_small (by omega) (by omega)]
    by_cases e : (l.length : Int) = n * d
    · rw [decide_eq_true ⟨h, e⟩, e, beq_self_eq_true]
    · rw [decide_eq_false (fun q => e q.2), beq_eq_false_iff_ne.mpr e]
  · rw [if_neg h, decide_eq_false (fun q => h q.1)]
theorem node_at (x : Int) : hold_node.f n f d p r dr o s m fr t x = some (decide (0 ≤ x ∧ x < n)) := by
  unfold hold_node.f
  by_cases h : x ≥ 0
  · rw [if_pos h]
    by_cases h2 : x < n
    · rw [decide_eq_true h2, decide_eq_true ⟨h, h2⟩]
    · rw [decide_eq_false h2, decide_eq_false (fun q => h2 q.2)]
  · rw [if_neg h, decide_eq_false (fun q => h q.1)]
/-- Why a frame is not held; 0, if it is. -/
def why (x a : Int) (b : ByteArray) : Int :=
  if plain n f d p r dr o s m fr t = 0 then
    (if F n f d p r dr o s m fr t l = true then
      (if 0 ≤ x ∧ x < n then
        (if a < 1 ∨ d < a then 10 else if b.toList = ([] : List UInt8) then 5 else if (b.size : Int) > 40 then 6 else if (rdOf ByteArray.empty l (x * d + (d - a))).toList = ([] : List UInt8) then 0 else 13)
      else 7)
    else 2)
  else plain n f d p r dr o s m fr t
theorem F_iff : F n f d p r dr o s m fr t l = true ↔ plain n f d p r dr o s m fr t = 0 ∧ (l.length : Int) = n * d := by
  unfold F
  exact decide_eq_true_iff
theorem refused_at (x a : Int) (b : ByteArray) {k : Nat} (hk : 10 < k) : hold_refused.f k n f d p r dr o s m fr t l x a b = some (why n f d p r dr o s m fr t l x a b) := by
  unfold hold_refused.f why
  rw [plain_at n f d p r dr o s m fr t hk, fits_at n f d p r dr o s m fr t l hk, node_at]
  simp only [Option.bind_some]
  by_cases hp : plain n f d p r dr o s m fr t = 0
  · rw [if_pos hp, if_pos hp]
    by_cases hF : F n f d p r dr o s m fr t l = true
    · rw [if_pos hF, if_pos hF]
      by_cases hx : 0 ≤ x ∧ x < n
      · rw [if_pos hx, if_pos (decide_eq_true hx)]
        have hb := plain_facts hp
        have hm := nd_facts (n := n) (d := d) (by omega) (by omega)
        have hl := ((F_iff _ _ _ _ _ _ _ _ _ _ _ _).1 hF).2
        have hf := hold_Take.fits (d := d) (x := x) (n := n) (by omega) hx.1 hx.2
        by_cases h1 : a < 1
        · rw [if_pos h1, if_pos (Or.inl h1)]
        · rw [if_neg h1]
          by_cases h2 : a > d
          · rw [if_pos h2, if_pos (Or.inr h2)]
          · rw [if_neg h2, if_neg (show ¬ (a < 1 ∨ d < a) by omega)]
            have hG : 0 ≤ x ∧ x ≤ 100 ∧ 1 ≤ d ∧ d ≤ 4 ∧ (x + 1) * d ≤ l.length ∧ l.length ≤ 1000000 := ⟨hx.1, by omega, by omega, by omega, by rw [Int.add_mul, Int.one_mul]; omega, by omega⟩
            rw [if_pos hG]
            split
            · rfl
            · split
              · rfl
              · split <;> rfl
      · rw [if_neg hx, if_neg (by rw [decide_eq_false hx]; decide)]
    · rw [if_neg hF, if_neg hF]
  · rw [if_neg hp, if_neg hp]
theorem why_zero {x a : Int} {b : ByteArray} (h : why n f d p r dr o s m fr t l x a b = 0) : plain n f d p r dr o s m fr t = 0 ∧ (l.length : Int) = n * d ∧ 0 ≤ x ∧ x < n ∧ 1 ≤ a ∧ a ≤ d ∧ ¬ b.toList = [] ∧ b.size ≤ 40 ∧ (rdOf ByteArray.empty l (x * d + (d - a))).toList = ([] : List UInt8) := by
  unfold why at h
  split at h
  · rename_i hp
    split at h
    · rename_i hF
      split at h
      · rename_i hx
        split at h
        · omega
        · split at h
          · omega
          · split at h
            · omega
            · split at h
              · rename_i h1 h2 h3 h4
                exact ⟨hp, ((F_iff _ _ _ _ _ _ _ _ _ _ _ _).1 hF).2, hx.1, hx.2, by omega, by omega, h2, by omega, h4⟩
              · omega
      · omega
    · omega
  · rename_i hp
    exact absurd h hp
/-- What is held behind a frame that comes, and why not. -/
def put (x a : Int) (b : ByteArray) : List ByteArray × Int := if why n f d p r dr o s m fr t l x a b = 0 then (l.set (x * d + (d - a)).toNat b, 0) else ([], why n f d p r dr o s m fr t l x a b)
theorem put_at (x a : Int) (b : ByteArray) {k : Nat} (hk : 10 < k) : hold_Put.f k n f d p r dr o s m fr t l x a b = some (put n f d p r dr o s m fr t l x a b) := by
  unfold hold_Put.f put
  rw [refused_at n f d p r dr o s m fr t l x a b hk]
  simp only [Option.bind_some]
  by_cases h : why n f d p r dr o s m fr t l x a b = 0
  · obtain ⟨h1, h2, h3, h4, h5, h6, _⟩ := why_zero n f d p r dr o s m fr t l h
    have hb := plain_facts h1
    have hm := nd_facts (n := n) (d := d) (by omega) (by omega)
    have hf := hold_Take.fits (d := d) (x := x) (n := n) (by omega) h3 h4
    rw [if_pos h, if_pos h, if_pos ⟨⟨h3, by omega, by omega, by omega, by rw [Int.add_mul, Int.one_mul]; omega, by omega⟩, h5, h6⟩]
  · rw [if_neg h, if_neg h]
theorem set_parts {l : List ByteArray} {i : Nat} (h : i < l.length) (b : ByteArray) : l.take i ++ [b] ++ l.drop (i + 1) = l.set i b := by
  rw [List.set_eq_take_append_cons_drop, if_pos h]
  simp
theorem ref_put_at (x a : Int) (b : ByteArray) (hx : (Lit.int .i64 x).wf = true) (ha : (Lit.int .i64 a).wf = true) (hl : l.length ≤ 1000) {k : Nat} (hk : 720 < k) : bellwetherref12_Put.f k n f d p r dr o s m fr t l x a b = some (put n f d p r dr o s m fr t l x a b) := by
  obtain ⟨k, rfl⟩ : ∃ j, k = j + 2 := ⟨k - 2, by omega⟩
  unfold bellwetherref12_Put.f put
  rw [ref_plain_at n f d p r dr o s m fr t (by omega), ref_fits_at n f d p r dr o s m fr t l (by omega)]
  simp only [Option.bind_some]
  by_cases hp : plain n f d p r dr o s m fr t = 0
  · have hb := plain_facts hp
    have hm := nd_facts (n := n) (d := d) (by omega) (by omega)
    rw [if_pos hp]
    by_cases hF : F n f d p r dr o s m fr t l = true
    · rw [if_pos hF]
      have hlen := ((F_iff _ _ _ _ _ _ _ _ _ _ _ _).1 hF).2
      by_cases hx0 : x < 0
      · have hw : why n f d p r dr o s m fr t l x a b = 7 := by unfold why; rw [if_pos hp, if_pos hF, if_neg (by omega)]
        rw [if_pos hx0, hw]
        simp only [bellwetherref12_Put.j0, if_true]
        rfl
      · rw [if_neg hx0]
        by_cases hx1 : x ≥ n
        · have hw : why n f d p r dr o s m fr t l x a b = 7 := by unfold why; rw [if_pos hp, if_pos hF, if_neg (by omega)]
          rw [decide_eq_true hx1, hw]
          simp only [bellwetherref12_Put.j0, if_true]
          rfl
        · have hxx : 0 ≤ x ∧ x < n := by omega
          have hf := hold_Take.fits (d := d) (x := x) (n := n) (by omega) hxx.1 hxx.2
          rw [decide_eq_false hx1]
          simp only [bellwetherref12_Put.j0, Bool.false_eq_true, if_false]
          by_cases h1 : a < 1
          · have hw : why n f d p r dr o s m fr t l x a b = 10 := by unfold why; rw [if_pos hp, if_pos hF, if_pos hxx, if_pos (Or.inl h1)]
            rw [if_pos h1, hw]
            simp only [bellwetherref12_Put.j1, if_true]
            rfl
          · rw [if_neg h1]
            by_cases h2 : a > d
            · have hw : why n f d p r dr o s m fr t l x a b = 10 := by unfold why; rw [if_pos hp, if_pos hF, if_pos hxx, if_pos (Or.inr h2)]
              rw [decide_eq_true h2, hw]
              simp only [bellwetherref12_Put.j1, if_true]
              rfl
            · rw [decide_eq_false h2]
              simp only [bellwetherref12_Put.j1, Bool.false_eq_true, if_false]
              have w1 : wrap64 (wrap64 (wrap64 (x * d) + d) - a) = x * d + (d - a) := by
                rw [ConfLib.wrap_small (n := x * d) (by omega) (by omega), ConfLib.wrap_small (n := x * d + d) (by omega) (by omega), ConfLib.wrap_small (by omega) (by omega)]
                omega
              rw [w1]
              unfold why
              rw [if_pos hp, if_pos hF, if_pos hxx, if_neg (show ¬ (a < 1 ∨ d < a) by omega)]
              by_cases h3 : b.toList = []
              · rw [if_pos h3, if_pos h3]
                rfl
              · rw [if_neg h3, if_neg h3]
                by_cases h4 : (b.size : Int) > 40
                · rw [if_pos h4, if_pos h4]
                  rfl
                · rw [if_neg h4, if_neg h4, if_pos (by omega), if_pos (by omega)]
                  by_cases h5 : (rdOf ByteArray.empty l (x * d + (d - a))).toList = []
                  · have e1 : (x * d + (d - a)).toNat < l.length := by omega
                    have e2 : (wrap64 (x * d + (d - a) + 1)).toNat = (x * d + (d - a)).toNat + 1 := by
                      rw [ConfLib.wrap_small (by omega) (by omega)]
                      omega
                    have e3 : 0 ≤ wrap64 (x * d + (d - a) + 1) ∧ wrap64 (x * d + (d - a) + 1) ≤ (l.length : Int) := by
                      rw [ConfLib.wrap_small (by omega) (by omega)]
                      omega
                    rw [if_pos h5, if_pos h5, if_pos (by omega), if_pos (by rw [List.length_take]; simp; omega)]
                    try simp only [Option.bind_some, List.nil_append]
                    rw [if_pos (by rw [List.length_take]; omega)]
                    try simp only [Option.bind_some]
                    rw [if_pos e3.1, if_pos e3.2, e2, if_pos (by rw [List.length_drop, List.length_append, List.length_take]; simp; omega), set_parts e1]
                    rfl
                  · rw [if_neg h5, if_neg h5]
                    rfl
    · have hw : why n f d p r dr o s m fr t l x a b = 2 := by unfold why; rw [if_pos hp, if_neg hF]
      rw [if_neg hF, hw]
      rfl
  · have hw : why n f d p r dr o s m fr t l x a b = plain n f d p r dr o s m fr t := by unfold why; rw [if_neg hp]
    rw [if_neg hp, hw, if_neg hp]
/-- Nothing that is held. -/
def empty : List ByteArray := if plain n f d p r dr o s m fr t = 0 then List.replicate (n * d).toNat (⟨#[]⟩ : ByteArray) else []
theorem empty_at {k : Nat} (hk : 10 < k) : hold_Empty.f k n f d p r dr o s m fr t = some (empty n f d p r dr o s m fr t) := by
  unfold hold_Empty.f empty
  rw [places_at n f d p r dr o s m fr t hk]
  simp only [Option.bind_some]
  by_cases hp : plain n f d p r dr o s m fr t = 0
  · have hb := plain_facts hp
    have hm := nd_facts (n := n) (d := d) (by omega) (by omega)
    rw [if_pos hp, if_pos hp, if_pos (by omega), if_pos (by omega)]
  · rw [if_neg hp, if_neg hp, if_pos (by omega), if_pos (by decide)]
    rfl
theorem ref_empty_loop (hp : plain n f d p r dr o s m fr t = 0) (q : Nat) : ∀ (k i : Nat), (i : Int) + q = n * d → q < k → bellwetherref12_Empty.l0 k (List.replicate i (⟨#[]⟩ : ByteArray)) (i : Int) n f d p r dr o s m fr t = some (List.replicate (n * d).toNat (⟨#[]⟩ : ByteArray)) := by
  have hb := plain_facts hp
  have hm := nd_facts (n := n) (d := d) (by omega) (by omega)
  induction q with
  | zero =>
    intro k i hi hk
    obtain ⟨k, rfl⟩ : ∃ j, k = j + 1 := ⟨k - 1, by omega⟩
    simp only [bellwetherref12_Empty.l0]
    rw [ConfLib.wrap_small (n := n * d) (by omega) (by omega), if_neg (by omega), show (n * d).toNat = i by omega]
  | succ q ih =>
    intro k i hi hk
    obtain ⟨k, rfl⟩ : ∃ j, k = j + 1 := ⟨k - 1, by omega⟩
    simp only [bellwetherref12_Empty.l0]
    rw [ConfLib.wrap_small (n := n * d) (by omega) (by omega), if_pos (by omega), List.length_replicate, if_pos (by omega), ConfLib.wrap_small (by omega) (by omega), show ((i : Int) + 1) = ((i + 1 : Nat) : Int) by omega, ← List.replicate_succ', ih k (i + 1) (by omega) (by omega)]
theorem ref_empty_at {k : Nat} (hk : 800 < k) : bellwetherref12_Empty.f k n f d p r dr o s m fr t = some (empty n f d p r dr o s m fr t) := by
  unfold bellwetherref12_Empty.f empty
  rw [ref_plain_at n f d p r dr o s m fr t (by omega)]
  simp only [Option.bind_some]
  by_cases hp : plain n f d p r dr o s m fr t = 0
  · have hb := plain_facts hp
    have hm := nd_facts (n := n) (d := d) (by omega) (by omega)
    rw [if_pos hp, if_pos hp]
    exact ref_empty_loop n f d p r dr o s m fr t hp (n * d).toNat k 0 (by omega) (by omega)
  · rw [if_neg hp, if_neg hp]
end
end Go.Proofs.Ytfdkmeokfmgfhaa.HoldLib
