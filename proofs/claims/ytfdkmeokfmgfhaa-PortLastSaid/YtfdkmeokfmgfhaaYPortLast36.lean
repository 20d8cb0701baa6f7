import Derived.Test.YtfdkmeokfmgfhaaYPortLast35
import Derived.Test.YtfdkmeokfmgfhaaYPortLast21
import Derived.Test.YtfdkmeokfmgfhaaYPortLast23
import Derived.Test.YtfdkmeokfmgfhaaYPortLast26
import Derived.Test.YtfdkmeokfmgfhaaYPortLast14
set_option linter.unusedVariables false
set_option linter.unusedSimpArgs false
namespace Go.Proofs.Ytfdkmeokfmgfhaa.PortLib
open Go.RowKit Go.Proofs.Ytfdkmeokfmgfhaa.X Go.Proofs.YtfdkmeokfmgfhaaW.PrintWords Go.Proofs.Ytfdkmeokfmgfhaa.ConfLib
theorem rd43_at {l : List S43} {i : Nat} (h : i < l.length) : rd_T43 l (i : Int) = l[i] := by simp [rd_T43, List.getD_eq_getElem?_getD, h]
theorem rd62_at {l : List S62} {i : Nat} (h : i < l.length) : rd_T62 l (i : Int) = l[i] := by simp [rd_T62, List.getD_eq_getElem?_getD, h]
theorem same_loop (l : List S43) (hl : l.length ≤ 1000) (q : Nat) : ∀ (k i : Nat), i + q = l.length → q < k → r26Same.l0 k l l (i : Int) = some true := by
  induction q with
  | zero =>
    intro k i hi hk
    obtain ⟨k, rfl⟩ : ∃ m, k = m + 1 := ⟨k - 1, by omega⟩
    simp only [r26Same.l0]
    rw [if_neg (by omega)]
  | succ q ih =>
    intro k i hi hk
    obtain ⟨k, rfl⟩ : ∃ m, k = m + 1 := ⟨k - 1, by omega⟩
    simp only [r26Same.l0]
    rw [if_pos (by omega), if_pos (by omega), if_pos (by omega), if_neg (by simp), ConfLib.wrap_small (by omega) (by omega), show ((i : Int) + 1) = ((i + 1 : Nat) : Int) by omega, ih k (i + 1) (by omega) (by omega)]
theorem same_at (l : List S43) (hl : l.length ≤ 1000) {k : Nat} (hk : 1000 < k) : r26Same.f k l l = some true := by
  unfold r26Same.f
  rw [if_pos rfl]
  exact same_loop l hl l.length k 0 (by omega) (by omega)
theorem set_mid {α : Type} (L R : List α) (x y : α) : (L ++ y :: R).set L.length x = L ++ x :: R := by
  rw [List.set_append_right _ _ (Nat.le_refl _), Nat.sub_self, List.set_cons_zero]
section
variable (n f d p r dr o s m fr : Int) (t : List Int)
def none_ : S43 := ⟨(⟨#[]⟩ : ByteArray), 0, fr⟩
theorem blank_loop (N : Nat) (hN : N ≤ 1000) (q : Nat) : ∀ (k i : Nat), i + q = N → q < k →
    port_Blank.l0 k (List.replicate i (none_ fr) ++ List.replicate q z43) (N : Int) (i : Int) n f d p r dr o s m fr t = some (List.replicate N (none_ fr)) := by
  induction q with
  | zero =>
    intro k i hi hk
    obtain ⟨k, rfl⟩ : ∃ m, k = m + 1 := ⟨k - 1, by omega⟩
    simp only [port_Blank.l0]
    rw [if_neg (by omega)]
    simp [show i = N by omega]
  | succ q ih =>
    intro k i hi hk
    obtain ⟨k, rfl⟩ : ∃ m, k = m + 1 := ⟨k - 1, by omega⟩
    have hlen : (List.replicate i (none_ fr) ++ List.replicate (q + 1) z43).length = N := by simp; omega
    have hrd : rd_T43 (List.replicate i (none_ fr) ++ List.replicate (q + 1) z43) (i : Int) = z43 := by
      rw [rd43_at (by omega), List.getElem_append_right (by simp)]
      simp
    have hset : (List.replicate i (none_ fr) ++ List.replicate (q + 1) z43).set i (none_ fr) = List.replicate (i + 1) (none_ fr) ++ List.replicate q z43 := by
      have h := set_mid (List.replicate i (none_ fr)) (List.replicate q z43) (none_ fr) z43
      rw [List.length_replicate] at h
      rw [List.replicate_succ, h, List.replicate_succ', List.append_assoc]
      rfl
    simp only [port_Blank.l0]
    rw [if_pos (by omega), if_pos (by omega), if_pos (by rw [hlen]; omega), hrd, Int.toNat_natCast, show (⟨z43.f0, z43.f1, fr⟩ : S43) = none_ fr from rfl, hset, ConfLib.wrap_small (by omega) (by omega), show ((i : Int) + 1) = ((i + 1 : Nat) : Int) by omega, ih k (i + 1) (by omega) (by omega)]
def blank : List S43 := if plain n f d p r dr o s m fr t = 0 then List.replicate n.toNat (none_ fr) else []
theorem blank_at {k : Nat} (hk : 20 < k) : port_Blank.f k n f d p r dr o s m fr t = some (blank n f d p r dr o s m fr t) := by
  unfold port_Blank.f blank
  rw [plain_at n f d p r dr o s m fr t (by omega)]
  simp only [Option.bind_some]
  by_cases h : plain n f d p r dr o s m fr t = 0
  · have hb := plain_facts h
    rw [if_pos h, if_pos h, if_pos (by omega), if_pos (by omega), List.length_replicate]
    exact blank_loop n f d p r dr o s m fr t n.toNat (by omega) n.toNat k 0 (by omega) (by omega)
  · rw [if_neg h, if_neg h]
def cop (l : List S43) : List S43 := if plain n f d p r dr o s m fr t = 0 then (if (l.length : Int) = n then l else blank n f d p r dr o s m fr t) else []
theorem blank_len : (blank n f d p r dr o s m fr t).length ≤ 13 := by
  unfold blank
  split
  · rename_i h
    have hb := plain_facts h
    rw [List.length_replicate]; omega
  · simp
theorem cop_len (l : List S43) : (cop n f d p r dr o s m fr t l).length ≤ 13 := by
  unfold cop
  split
  · rename_i h
    have hb := plain_facts h
    split
    · omega
    · exact blank_len n f d p r dr o s m fr t
  · simp
def mk (p : S43) : S62 := ⟨p⟩
theorem open_at (l : List S43) {k : Nat} (hk : 20 < k) : port_open.f k n f d p r dr o s m fr t l = some ((cop n f d p r dr o s m fr t l).map mk) := by
  have hbl := blank_len n f d p r dr o s m fr t
  unfold port_open.f cop
  rw [plain_at n f d p r dr o s m fr t (by omega), blank_at n f d p r dr o s m fr t hk]
  simp only [Option.bind_some]
  by_cases h : plain n f d p r dr o s m fr t = 0
  · have hb := plain_facts h
    rw [if_pos h, if_pos h]
    by_cases e : (l.length : Int) = n
    · rw [if_pos e, if_pos e, port_open.go, if_pos (by omega)]
      rfl
    · rw [if_neg e, if_neg e, port_open.go, if_pos (by omega)]
      rfl
  · rw [if_neg h, if_neg h, show blank n f d p r dr o s m fr t = [] from by unfold blank; rw [if_neg h]]
    split <;> rfl
theorem closed_loop (l : List S62) (hl : l.length ≤ 1000) (q : Nat) : ∀ (k i : Nat), i + q = l.length → q < k → port_closed.l0 k ((l.take i).map (·.f0)) l (l.length : Int) (i : Int) = some (l.map (·.f0)) := by
  induction q with
  | zero =>
    intro k i hi hk
    obtain ⟨k, rfl⟩ : ∃ m, k = m + 1 := ⟨k - 1, by omega⟩
    simp only [port_closed.l0]
    rw [if_neg (by omega), List.take_of_length_le (by omega)]
  | succ q ih =>
    intro k i hi hk
    obtain ⟨k, rfl⟩ : ∃ m, k = m + 1 := ⟨k - 1, by omega⟩
    have h := ih k (i + 1) (by omega) (by omega)
    have hi2 : i < l.length := by omega
    rw [List.take_succ_eq_append_getElem hi2, List.map_append] at h
    simp only [port_closed.l0]
    rw [if_pos (by omega), if_pos (by omega), if_pos (by omega), if_pos (by rw [List.length_map, List.length_take]; omega), rd62_at hi2, ConfLib.wrap_small (by omega) (by omega), show ((i : Int) + 1) = ((i + 1 : Nat) : Int) by omega]
    exact h
theorem closed_at (l : List S62) (hl : l.length ≤ 1000) {k : Nat} (hk : l.length < k) : port_closed.f k l = some (l.map (·.f0)) := closed_loop l hl l.length k 0 (by omega) hk
def put (l : List S43) (d : S38) : List S43 := if 0 ≤ d.f0 ∧ d.f0 < (l.length : Int) then l.set d.f0.toNat ⟨d.f3, d.f2, 0⟩ else l
theorem put_len (l : List S43) (d : S38) : (put l d).length = l.length := by unfold put; split <;> simp
theorem puts_len (ds : List S38) : ∀ l : List S43, (ds.foldl put l).length = l.length := by
  induction ds with
  | nil => intro l; rfl
  | cons d ds ih => intro l; rw [List.foldl_cons, ih, put_len]
theorem put_mk (ds : List S38) : ∀ l : List S43, (ds.foldl port_Put.put (l.map mk)) = (ds.foldl put l).map mk := by
  induction ds with
  | nil => intro l; rfl
  | cons d ds ih =>
    intro l
    have h : port_Put.put (l.map mk) d = (put l d).map mk := by
      unfold port_Put.put put
      rw [List.length_map]
      split
      · rw [List.map_set]; rfl
      · rfl
    rw [List.foldl_cons, List.foldl_cons, h, ih]
theorem unmk (l : List S43) : (l.map mk).map (·.f0) = l := by rw [List.map_map]; exact List.map_id l
theorem put_at (l : List S43) (ds : List S38) (hd : ds.length ≤ 1000) {k : Nat} (hk : 20 < k) : port_Put.f k n f d p r dr o s m fr t l ds = some (ds.foldl put (cop n f d p r dr o s m fr t l)) := by
  have hc := cop_len n f d p r dr o s m fr t l
  unfold port_Put.f
  rw [open_at n f d p r dr o s m fr t l hk]
  simp only [Option.bind_some]
  rw [if_pos (by omega), put_mk, closed_at _ (by rw [List.length_map, puts_len]; omega) (by rw [List.length_map, puts_len]; omega), unmk]
def grow (p : S43) : S43 := ⟨p.f0, p.f1, port_Older.sat p.f2 fr⟩
end
end Go.Proofs.Ytfdkmeokfmgfhaa.PortLib
