import Derived.Test.YtfdkmeokfmgfhaaYPortMoves41
import Derived.Test.YtfdkmeokfmgfhaaYPortMoves42
import Derived.Test.YtfdkmeokfmgfhaaYPortMoves26
set_option linter.unusedVariables false
set_option linter.unusedSimpArgs false
namespace Go.Proofs.Ytfdkmeokfmgfhaa.portFades
open Go.RowKit Go.Proofs.Ytfdkmeokfmgfhaa.X Go.Proofs.YtfdkmeokfmgfhaaW.PrintWords Go.Proofs.Ytfdkmeokfmgfhaa.ConfLib Go.Proofs.Ytfdkmeokfmgfhaa.PortLib
theorem alive2000 : bellwetherlaw26_alive.f 2000 = some true := by decide +kernel
theorem alive {k : Nat} (hk : 2000 ≤ k) : bellwetherlaw26_alive.f k = some true := by
  obtain ⟨j, rfl⟩ : ∃ j, k = 2000 + j := ⟨k - 2000, by omega⟩
  induction j with
  | zero => exact alive2000
  | succ j ih => exact bellwetherlaw26_alive.mono _ _ (ih (by omega))
section
variable (n f d p r dr o s m fr : Int) (t : List Int) (d0 d1 d2 : Int) (d3 : ByteArray) (others : List S38)
def age (i : Int) : Int := if i ≤ fr then i else fr
theorem sat_age {i : Int} (h0 : 0 ≤ i) (h1 : 1 ≤ fr ∧ fr ≤ 100) : port_Older.sat (age fr i) fr = age fr (i + 1) := by
  unfold port_Older.sat age
  by_cases h : i ≤ fr
  · rw [if_pos h, if_neg (by omega)]
    by_cases e : i ≥ fr
    · rw [if_pos e, if_neg (by omega)]
    · rw [if_neg e, if_pos (by omega), ConfLib.wrap_small (by omega) (by omega)]
  · rw [if_neg h, if_neg (by omega), if_pos (by omega), if_neg (by omega)]
theorem loop (hp : plain n f d p r dr o s m fr t = 0) (hf : 1 ≤ fr ∧ fr ≤ 100) (hd : 0 ≤ d0 ∧ d0 < n) (q : Nat) : ∀ (k : Nat) (i : Int) (x : List S43), 0 ≤ i → i + q = fr + 2 → 2000 + 3 * q < k →
    (x.length : Int) = n → rd_T43 x d0 = ⟨d3, d2, age fr i⟩ → bellwetherlaw26_PortFades.l0 k others x i n f d p r dr o s m fr t d0 d1 d2 d3 = some true := by
  have hb := plain_facts hp
  induction q with
  | zero =>
    intro k i x h0 hi hk hx hr
    obtain ⟨k, rfl⟩ : ∃ m, k = m + 1 := ⟨k - 1, by omega⟩
    simp only [bellwetherlaw26_PortFades.l0]
    rw [ConfLib.wrap_small (by omega) (by omega), if_neg (by omega), alive (by omega)]
    rfl
  | succ q ih =>
    intro k i x h0 hi hk hx hr
    obtain ⟨k, rfl⟩ : ∃ m, k = m + 1 := ⟨k - 1, by omega⟩
    have j3 : ∀ (k : Nat) (b : Bool), 2000 + 3 * q < k - 1 → (b = true → i < (others.length : Int) ∧ (rd_T38 others i).f0 ≠ d0) → bellwetherlaw26_PortFades.j3 k others x i b n f d p r dr o s m fr t d0 d1 d2 d3 = some true := by
      intro k b hk hb2
      obtain ⟨k, rfl⟩ : ∃ m, k = m + 1 := ⟨k - 1, by omega⟩
      simp only [bellwetherlaw26_PortFades.j3]
      cases b with
      | true =>
        obtain ⟨g0, g1⟩ := hb2 rfl
        rw [if_pos rfl, if_pos h0, if_pos g0, put_at n f d p r dr o s m fr t x _ (by simp) (by omega), cop_same hp x hx]
        simp only [Option.bind_some, List.foldl_cons, List.foldl_nil]
        have hl : ((put x ⟨(rd_T38 others i).f0, (rd_T38 others i).f1, (rd_T38 others i).f2, (rd_T38 others i).f3⟩).length : Int) = n := by rw [put_len]; exact hx
        have hr2 := rd_put x ⟨(rd_T38 others i).f0, (rd_T38 others i).f1, (rd_T38 others i).f2, (rd_T38 others i).f3⟩ d0 hd.1 g1
        rw [older_at n f d p r dr o s m fr t _ (by omega), cop_same hp _ hl]
        simp only [Option.bind_some]
        rw [ConfLib.wrap_small (by omega) (by omega)]
        refine ih k (i + 1) _ (by omega) (by omega) (by omega) (by rw [List.length_map]; exact hl) ?_
        rw [rd_map _ _ _ hd.1 (by omega), hr2, hr, grow, sat_age fr h0 hf]
      | false =>
        rw [if_neg (by decide), older_at n f d p r dr o s m fr t x (by omega), cop_same hp x hx]
        simp only [Option.bind_some]
        rw [ConfLib.wrap_small (by omega) (by omega)]
        refine ih k (i + 1) _ (by omega) (by omega) (by omega) (by rw [List.length_map]; exact hx) ?_
        rw [rd_map _ _ _ hd.1 (by omega), hr, grow, sat_age fr h0 hf]
    have j2 : bellwetherlaw26_PortFades.j2 k others x i false n f d p r dr o s m fr t d0 d1 d2 d3 = some true := by
      obtain ⟨k, rfl⟩ : ∃ m, k = m + 1 := ⟨k - 1, by omega⟩
      simp only [bellwetherlaw26_PortFades.j2]
      rw [if_neg (by decide)]
      by_cases g0 : i < (others.length : Int)
      · rw [if_pos g0, if_pos h0]
        exact j3 k _ (by omega) (fun h => ⟨g0, by simpa using h⟩)
      · rw [if_neg g0]
        exact j3 k _ (by omega) (fun h => by cases h)
    simp only [bellwetherlaw26_PortFades.l0]
    rw [ConfLib.wrap_small (by omega) (by omega), if_pos (by omega), read_at n f d p r dr o s m fr t x d0 (by omega), cop_same hp x hx]
    simp only [Option.bind_some]
    by_cases e : i < fr
    · have hread : PortLib.read fr x d0 = (d3, d2, true) := by
        have ha : age fr i = i := by unfold age; rw [if_pos (by omega)]
        unfold PortLib.read
        rw [if_neg (by omega), if_neg (by omega), hr]
        show (if age fr i < 0 then _ else if age fr i ≥ fr then _ else _) = _
        rw [ha, if_neg (by omega), if_neg (by omega)]
      have e1 : (true != decide (i < fr)) = false := by rw [decide_eq_true e]; rfl
      rw [hread]
      show (if (true != decide (i < fr)) = true then _ else if true = true then (if d3.toList = d3.toList then bellwetherlaw26_PortFades.j2 k others x i (d2 != d2) n f d p r dr o s m fr t d0 d1 d2 d3 else _) else _) = some true
      rw [e1, if_neg (by decide), if_pos rfl, if_pos rfl, show (d2 != d2) = false by simp]
      exact j2
    · have hread : PortLib.read fr x d0 = ((⟨#[]⟩ : ByteArray), 0, false) := by
        have ha : fr ≤ age fr i := by unfold age; split <;> omega
        unfold PortLib.read
        rw [if_neg (by omega), if_neg (by omega), hr]
        show (if age fr i < 0 then _ else if age fr i ≥ fr then _ else _) = _
        rw [if_neg (by omega), if_pos (by omega)]
      have e1 : (false != decide (i < fr)) = false := by rw [decide_eq_false e]; rfl
      rw [hread]
      show (if (false != decide (i < fr)) = true then _ else if false = true then _ else bellwetherlaw26_PortFades.j2 k others x i false n f d p r dr o s m fr t d0 d1 d2 d3) = some true
      rw [e1, if_neg (by decide), if_neg (by decide)]
      exact j2
end
theorem pure : Pure := by
  rintro ⟨n, f, d, p, r, dr, o, s, m, fr, t⟩ l ⟨d0, d1, d2, d3⟩ others _ _ _ _
  refine ⟨4001, ?_⟩
  have key : ∀ x : Bool, (plain n f d p r dr o s m fr t = 0 ∧ 0 ≤ d0 ∧ d0 < n ∨ x = true) → bellwetherlaw26_PortFades.j0 4001 l others x n f d p r dr o s m fr t d0 d1 d2 d3 = some true := by
    intro x hx
    rw [show (4001 : Nat) = 4000 + 1 from rfl]
    simp only [bellwetherlaw26_PortFades.j0]
    cases x with
    | true => rw [if_pos rfl, alive (by decide)]; rfl
    | false =>
      obtain ⟨hp, hd⟩ : plain n f d p r dr o s m fr t = 0 ∧ 0 ≤ d0 ∧ d0 < n := by rcases hx with hx | hx; exact hx; cases hx
      have hnum := (plain_zero.1 hp).2.2.1
      unfold numbersOk at hnum
      have hc := cop_n hp l
      rw [if_neg (by decide), put_at n f d p r dr o s m fr t l _ (by simp) (by decide)]
      simp only [Option.bind_some, List.foldl_cons, List.foldl_nil]
      refine loop n f d p r dr o s m fr t d0 d1 d2 d3 others hp (by omega) hd (fr + 2).toNat 4000 0 _ (by omega) (by omega) (by omega) (by rw [put_len]; exact hc) ?_
      rw [rd_put_same _ ⟨d0, d1, d2, d3⟩ hd.1 (by rw [hc]; exact hd.2), age, if_pos (by omega)]
  unfold bellwetherlaw26_PortFades.f
  rw [ref_plain_at n f d p r dr o s m fr t (by decide)]
  simp only [Option.bind_some]
  by_cases hp : plain n f d p r dr o s m fr t = 0
  · rw [if_pos hp]
    split
    · exact key true (.inr rfl)
    · split
      · exact key true (.inr rfl)
      · split
        · exact key true (.inr rfl)
        · refine key _ ?_
          by_cases h2 : d0 ≥ n
          · exact .inr (decide_eq_true h2)
          · exact .inl ⟨hp, by omega, by omega⟩
  · rw [if_neg hp]
    exact key true (.inr rfl)
end Go.Proofs.Ytfdkmeokfmgfhaa.portFades
