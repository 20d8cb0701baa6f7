import Derived.Test.YtfdkmeokfmgfhaaYPortLast32
import Derived.Test.YtfdkmeokfmgfhaaYPortLast37
set_option linter.unusedVariables false
set_option linter.unusedSimpArgs false
namespace Go.Proofs.Ytfdkmeokfmgfhaa.portLast
open Go.RowKit Go.Proofs.Ytfdkmeokfmgfhaa.X Go.Proofs.YtfdkmeokfmgfhaaW.PrintWords Go.Proofs.Ytfdkmeokfmgfhaa.ConfLib Go.Proofs.Ytfdkmeokfmgfhaa.PortLib
theorem alive2000 : l26alive.f 2000 = some true := by decide +kernel
theorem alive {k : Nat} (hk : 2000 ≤ k) : l26alive.f k = some true := by
  obtain ⟨j, rfl⟩ : ∃ j, k = 2000 + j := ⟨k - 2000, by omega⟩
  induction j with
  | zero => exact alive2000
  | succ j ih => exact l26alive.mono _ _ (ih (by omega))
section
variable (n f d p r dr o s m fr : Int) (t : List Int) (l : List S43) (got : List S38) (x : Int)
theorem loop (hp : plain n f d p r dr o s m fr t = 0) (hl : (l.length : Int) = n) (hx : 0 ≤ x ∧ x < n) (hg : got.length ≤ 40) (q : Nat) : ∀ (k i : Nat), i + q = got.length → 2000 + 3 * q < k →
    l26PortLast.l0 k got x (got.foldl put l) ((got.take i).foldl put l) (i : Int) n f d p r dr o s m fr t (rd_T43 ((got.take i).foldl put l) x).f0 (rd_T43 ((got.take i).foldl put l) x).f1 (rd_T43 ((got.take i).foldl put l) x).f2 = some true := by
  have hb := plain_facts hp
  have hall := puts_len got l
  induction q with
  | zero =>
    intro k i hi hk
    obtain ⟨k, rfl⟩ : ∃ m, k = m + 1 := ⟨k - 1, by omega⟩
    simp only [l26PortLast.l0]
    rw [if_neg (by omega), List.take_of_length_le (by omega), if_pos (by omega), same_at _ (by omega) (by omega)]
    simp only [Option.bind_some]
    rw [if_pos trivial, if_pos hx.1, if_pos (by omega), if_pos (by simp), alive (by omega)]
    rfl
  | succ q ih =>
    intro k i hi hk
    obtain ⟨k, rfl⟩ : ∃ m, k = m + 1 := ⟨k - 1, by omega⟩
    have hlt : i < got.length := by omega
    have hrd : rd_T38 got (i : Int) = got[i] := by simp [rd_T38, List.getD_eq_getElem?_getD, hlt]
    have hcur := puts_len (got.take i) l
    have e : (got.take (i + 1)).foldl put l = put ((got.take i).foldl put l) got[i] := by
      rw [List.take_succ_eq_append_getElem hlt, List.foldl_append]
      rfl
    have go := ih k (i + 1) (by omega) (by omega)
    rw [e] at go
    simp only [l26PortLast.l0]
    rw [if_pos (by omega), if_pos (by omega), put_at n f d p r dr o s m fr t _ _ (by simp) (by omega), cop_same hp _ (by omega), hrd]
    simp only [Option.bind_some, List.foldl_cons, List.foldl_nil]
    rw [ConfLib.wrap_small (by omega) (by omega), show ((i : Int) + 1) = ((i + 1 : Nat) : Int) by omega]
    generalize got[i] = g at go ⊢
    generalize (got.take i).foldl put l = X at go hcur ⊢
    by_cases h : g.f0 = x
    · rw [if_pos h]
      have hs := rd_put_same X g (by omega) (by omega)
      rw [h] at hs
      rw [hs] at go
      exact go
    · rw [if_neg h]
      rw [rd_put X g x hx.1 h] at go
      exact go
end
theorem pure : Pure := by
  rintro ⟨n, f, d, p, r, dr, o, s, m, fr, t⟩ l got x _ _ _ _
  refine ⟨4001, ?_⟩
  have key : ∀ b : Bool, (plain n f d p r dr o s m fr t = 0 ∧ (l.length : Int) = n ∧ got.length ≤ 40 ∧ 0 ≤ x ∧ x < n ∨ b = true) → l26PortLast.j0 4001 l got x b n f d p r dr o s m fr t = some true := by
    intro b hb
    rw [show (4001 : Nat) = 4000 + 1 from rfl]
    simp only [l26PortLast.j0]
    cases b with
    | true => rw [if_pos rfl, alive (by decide)]; rfl
    | false =>
      obtain ⟨hp, hl, hg, hx⟩ : plain n f d p r dr o s m fr t = 0 ∧ (l.length : Int) = n ∧ got.length ≤ 40 ∧ 0 ≤ x ∧ x < n := by rcases hb with hb | hb; exact hb; cases hb
      rw [if_neg (by decide), put_at n f d p r dr o s m fr t l got (by omega) (by decide), cop_same hp _ hl]
      simp only [Option.bind_some]
      rw [if_pos hx.1, if_pos (by omega)]
      exact loop n f d p r dr o s m fr t l got x hp hl hx hg got.length 4000 0 (by omega) (by omega)
  unfold l26PortLast.f
  rw [ref_plain_at n f d p r dr o s m fr t (by decide)]
  simp only [Option.bind_some]
  by_cases hp : plain n f d p r dr o s m fr t = 0
  case neg => rw [if_neg hp]; exact key _ (.inr rfl)
  rw [if_pos hp]
  by_cases hl : (l.length : Int) = n
  case neg => rw [if_neg hl]; exact key _ (.inr rfl)
  rw [if_pos hl]
  by_cases hg : (got.length : Int) > 40
  · rw [if_pos hg]; exact key _ (.inr rfl)
  rw [if_neg hg]
  by_cases h0 : x < 0
  · rw [if_pos h0]; exact key _ (.inr rfl)
  rw [if_neg h0]
  by_cases h1 : x ≥ n
  · rw [decide_eq_true h1]; exact key _ (.inr rfl)
  · rw [decide_eq_false h1]; exact key _ (.inl ⟨hp, hl, by omega, by omega, by omega⟩)
end Go.Proofs.Ytfdkmeokfmgfhaa.portLast
