import Derived.Test.YtmdnmofcgmmfbaaYWindowSince28
import Derived.Test.YtmdnmofcgmmfbaaYWindowSince32
import Derived.Test.YtmdnmofcgmmfbaaYWindowSince19
set_option linter.unusedVariables false
set_option linter.unusedSimpArgs false
namespace Go.Proofs.Ytmdnmofcgmmfbaa.windowSince
open Go.RowKit Go.Proofs.Ytmdnmofcgmmfbaa.X Go.Proofs.YtmdnmofcgmmfbaaW.PrintWords Go.Proofs.YtmdnmofcgmmfbaaW.PrintMore Go.Proofs.Ytmdnmofcgmmfbaa.ConfLib Go.Proofs.Ytmdnmofcgmmfbaa.WinLib
theorem known : bellwetherlaw37_known.f 5000 = some true := by
  have h : ∀ j, bellwetherlaw37_known.f (2000 + j) = some true := by
    intro j
    induction j with
    | zero => decide +kernel
    | succ j ih => exact bellwetherlaw37_known.mono _ _ ih
  exact h 3000
theorem known_big {k : Nat} (hk : 5000 ≤ k) : bellwetherlaw37_known.f k = some true := by
  obtain ⟨j, rfl⟩ : ∃ j, k = 5000 + j := ⟨k - 5000, by omega⟩
  induction j with
  | zero => exact known
  | succ j ih => exact bellwetherlaw37_known.mono _ _ (ih (by omega))
theorem i64_bounds {n : Int} (h : (Lit.int .i64 n).wf = true) : -9223372036854775808 ≤ n ∧ n ≤ 9223372036854775807 := by
  simp [Lit.wf, IntKind.min, IntKind.max, IntKind.signed, IntKind.bits] at h
  omega
theorem since_loop (l : WinLib.Rows) (hl : l.length ≤ 200) (n t : Int) (ht : t < 200) (q : Nat) : ∀ (k k2 : Nat) (y : Int), 0 ≤ t - y + 1 → 0 ≤ y → t - y + 1 ≤ q → q < k → q < k2 →
    ∃ x, window_Since.l0 k l n t y = some x ∧ bellwetherref37_Since.l0 k2 l n t (t - y) = some x := by
  induction q with
  | zero =>
    intro k k2 y h0 hy hq hk hk2
    obtain ⟨k, rfl⟩ : ∃ j, k = j + 1 := ⟨k - 1, by omega⟩
    obtain ⟨k2, rfl⟩ : ∃ j, k2 = j + 1 := ⟨k2 - 1, by omega⟩
    simp only [window_Since.l0, bellwetherref37_Since.l0]
    rw [ConfLib.wrap_small (n := t - y) (by omega) (by omega), if_neg (by omega), if_pos (by omega), if_neg (by omega)]
    exact ⟨_, rfl, rfl⟩
  | succ q ih =>
    intro k k2 y h0 hy hq hk hk2
    obtain ⟨k, rfl⟩ : ∃ j, k = j + 1 := ⟨k - 1, by omega⟩
    obtain ⟨k2, rfl⟩ : ∃ j, k2 = j + 1 := ⟨k2 - 1, by omega⟩
    simp only [window_Since.l0, bellwetherref37_Since.l0]
    rw [ConfLib.wrap_small (n := t - y) (by omega) (by omega)]
    by_cases h : t - y ≥ 0
    · obtain ⟨r1, e1, h1⟩ := at_at l (t - y) n
      obtain ⟨r2, e2, h2⟩ := ref_at l (t - y) n
      rw [if_pos h, if_pos h, e1, e2]
      simp only [Option.bind_some]
      rw [h1, h2]
      by_cases hp : pu l n (t - y) = true
      · rw [if_pos hp, if_pos hp, if_neg (by omega), show t - (t - y) = y by omega, ConfLib.wrap_small (by omega) (by omega)]
        exact ⟨_, rfl, rfl⟩
      · rw [if_neg hp, if_neg hp, ConfLib.wrap_small (n := y + 1) (by omega) (by omega), ConfLib.wrap_small (n := t - y - 1) (by omega) (by omega)]
        have := ih k k2 (y + 1) (by omega) (by omega) (by omega) (by omega) (by omega)
        rw [show t - (y + 1) = t - y - 1 by omega] at this
        exact this
    · rw [if_neg h, if_neg h, if_pos (by omega)]
      exact ⟨_, rfl, rfl⟩
theorem since_eq (l : WinLib.Rows) (hl : l.length ≤ 200) (n t : Int) (ht : -9223372036854775808 ≤ t) {k : Nat} (hk : 300 < k) : ∃ x, window_Since.f k l n t = some x ∧ bellwetherref37_Since.f k l n t = some x := by
  unfold window_Since.f bellwetherref37_Since.f
  by_cases h : t ≥ (l.length : Int)
  · rw [if_pos h, if_pos h]
    exact ⟨_, rfl, rfl⟩
  · rw [if_neg h, if_neg h]
    by_cases h0 : 0 ≤ t + 1
    · have := since_loop l hl n t (by omega) 201 k k 0 (by omega) (by omega) (by omega) (by omega) (by omega)
      rw [show t - 0 = t by omega] at this
      exact this
    · obtain ⟨k, rfl⟩ : ∃ j, k = j + 1 := ⟨k - 1, by omega⟩
      simp only [window_Since.l0, bellwetherref37_Since.l0]
      have hn : ¬ t ≥ 0 := by omega
      rw [show t - 0 = t by omega, ConfLib.wrap_small (n := t) (by omega) (by omega), if_neg hn, if_neg hn, if_pos (by omega)]
      exact ⟨_, rfl, rfl⟩
section
variable (n f d p r dr o s m fr : Int) (t : List Int)
theorem starts_end (l : WinLib.Rows) (hl : l.length ≤ 200) (nd : Int) (hb : 1 ≤ p ∧ p ≤ 400) (q : Nat) : ∀ (k : Nat) (out : List Int) (x : Int), 0 ≤ x → x ≤ 9223372036854775807 → l.length ≤ x + q → l.length < x + p → q < k → bellwetherref37_Starts.l0 k l nd out x n f d p r dr o s m fr t = some out := by
  induction q with
  | zero =>
    intro k out x hx hx2 hq hlp hk
    obtain ⟨k, rfl⟩ : ∃ j, k = j + 1 := ⟨k - 1, by omega⟩
    simp only [bellwetherref37_Starts.l0]
    rw [if_neg (by omega)]
  | succ q ih =>
    intro k out x hx hx2 hq hlp hk
    obtain ⟨k, rfl⟩ : ∃ j, k = j + 1 := ⟨k - 1, by omega⟩
    simp only [bellwetherref37_Starts.l0]
    by_cases h : x < (l.length : Int)
    · obtain ⟨r2, e2, h2⟩ := ref_at l x nd
      rw [if_pos h, e2, ConfLib.wrap_small (n := x + p) (by omega) (by omega), ConfLib.wrap_small (n := x + 1) (by omega) (by omega)]
      simp only [Option.bind_some]
      have hno : ¬ x + p ≤ (l.length : Int) := by omega
      rw [if_neg hno, ite_self]
      exact ih k out (x + 1) (by omega) (by omega) (by omega) (by omega) (by omega)
    · rw [if_neg h]
theorem starts_loop (l : WinLib.Rows) (hl : l.length ≤ 200) (nd : Int) (hb : 1 ≤ p ∧ p ≤ 400) (q : Nat) : ∀ (k k2 : Nat) (out : List Int) (x : Int), 0 ≤ x → x ≤ 9223372036854775807 → l.length ≤ x + q → out.length ≤ x → q < k → q < k2 → 
    ∃ v, window_Starts.l0 k l nd out x n f d p r dr o s m fr t = some v ∧ bellwetherref37_Starts.l0 k2 l nd out x n f d p r dr o s m fr t = some v ∧ (out.length ≤ 300 → v.length ≤ 300) := by
  induction q with
  | zero =>
    intro k k2 out x hx hx2 hq ho hk hk2
    obtain ⟨k, rfl⟩ : ∃ j, k = j + 1 := ⟨k - 1, by omega⟩
    refine ⟨out, ?_, starts_end n f d p r dr o s m fr t l hl nd hb 0 k2 out x hx hx2 (by omega) (by omega) (by omega), fun h => h⟩
    simp only [window_Starts.l0]
    rw [ConfLib.wrap_small (n := (l.length : Int) - p) (by omega) (by omega), if_neg (by omega)]
  | succ q ih =>
    intro k k2 out x hx hx2 hq ho hk hk2
    obtain ⟨k, rfl⟩ : ∃ j, k = j + 1 := ⟨k - 1, by omega⟩
    by_cases hp : x ≤ (l.length : Int) - p
    · obtain ⟨k2, rfl⟩ : ∃ j, k2 = j + 1 := ⟨k2 - 1, by omega⟩
      simp only [window_Starts.l0, bellwetherref37_Starts.l0]
      obtain ⟨r1, e1, h1⟩ := at_at l x nd
      obtain ⟨r2, e2, h2⟩ := ref_at l x nd
      have hxl : x < (l.length : Int) := by omega
      rw [ConfLib.wrap_small (n := (l.length : Int) - p) (by omega) (by omega), if_pos hp, if_pos hxl, e1, e2, ConfLib.wrap_small (n := x + p) (by omega) (by omega), ConfLib.wrap_small (n := x + 1) (by omega) (by omega)]
      simp only [Option.bind_some]
      rw [h1, h2]
      by_cases hpp : pu l nd x = true
      · rw [if_pos hpp, if_pos hpp, if_pos (by omega), if_pos (by omega), if_pos (by omega)]
        obtain ⟨v, g1, g2, g3⟩ := ih k k2 (out ++ [x]) (x + 1) (by omega) (by omega) (by omega) (by simp; omega) (by omega) (by omega)
        exact ⟨v, g1, g2, fun _ => g3 (by simp; omega)⟩
      · rw [if_neg hpp, if_neg hpp]
        exact ih k k2 out (x + 1) (by omega) (by omega) (by omega) (by omega) (by omega) (by omega)
    · refine ⟨out, ?_, starts_end n f d p r dr o s m fr t l hl nd hb (q + 1) k2 out x hx hx2 (by omega) (by omega) (by omega), fun h => h⟩
      simp only [window_Starts.l0]
      rw [ConfLib.wrap_small (n := (l.length : Int) - p) (by omega) (by omega), if_neg hp]
theorem starts_eq (l : WinLib.Rows) (hl : l.length ≤ 200) (nd a : Int) (ha : a ≤ 9223372036854775807) {k : Nat} (hk : 2000 < k) : ∃ v, window_Starts.f k n f d p r dr o s m fr t l nd a = some v ∧ bellwetherref37_Starts.f k n f d p r dr o s m fr t l nd a = some v ∧ v.length ≤ 300 := by
  unfold window_Starts.f bellwetherref37_Starts.f
  rw [plain_at n f d p r dr o s m fr t (by omega), ref_plain_at n f d p r dr o s m fr t (by omega)]
  simp only [Option.bind_some]
  by_cases hp : plain n f d p r dr o s m fr t = 0
  · have hb := plain_facts hp
    have hm := mul_d (f := f) (d := d) (by omega) (by omega)
    have ha0 := mx_nonneg a
    have ha2 : mx a 0 ≤ 9223372036854775807 := by
      unfold mx
      split <;> omega
    rw [if_pos hp, if_pos hp]
    obtain ⟨v, g1, g2, g3⟩ := starts_loop n f d p r dr o s m fr t l hl nd (by omega) 200 k k [] (mx a 0) ha0 ha2 (by omega) (by simpa using ha0) (by omega) (by omega)
    exact ⟨v, g1, g2, g3 (by simp)⟩
  · rw [if_neg hp, if_neg hp]
    exact ⟨_, rfl, rfl, by simp⟩
end
theorem ints_same (v : List Int) (hv : v.length ≤ 300) (q : Nat) : ∀ (k i : Nat), i + q = v.length → q < k → bellwetherref06_Ints.l0 k v v (i : Int) = some true := by
  induction q with
  | zero =>
    intro k i hi hk
    obtain ⟨k, rfl⟩ : ∃ j, k = j + 1 := ⟨k - 1, by omega⟩
    simp only [bellwetherref06_Ints.l0]
    rw [if_neg (by omega)]
  | succ q ih =>
    intro k i hi hk
    obtain ⟨k, rfl⟩ : ∃ j, k = j + 1 := ⟨k - 1, by omega⟩
    simp only [bellwetherref06_Ints.l0]
    rw [if_pos (by omega), if_pos (by omega), if_pos (by omega), if_pos trivial, ConfLib.wrap_small (by omega) (by omega)]
    exact ih k (i + 1) (by omega) (by omega)
theorem pure : Pure := by
  rintro ⟨n, f, d, p, r, dr, o, s, m, fr, t⟩ l nd a _ _ _ ha
  have hab := i64_bounds ha
  refine ⟨10000, ?_⟩
  unfold bellwetherlaw37_WindowSince.f
  obtain ⟨b, e⟩ := few_some l (k := 10000) (by omega)
  have hb := few_len e
  rw [e]
  simp only [Option.bind_some]
  by_cases h1 : b = true
  · have hl := hb h1
    obtain ⟨x, e1, e2⟩ := since_eq l (by omega) nd a (by omega) (k := 10000) (by omega)
    obtain ⟨v, g1, g2, g3⟩ := starts_eq n f d p r dr o s m fr t l (by omega) nd a (by omega) (k := 10000) (by omega)
    rw [if_pos h1, e1, e2]
    simp only [Option.bind_some]
    rw [if_pos trivial, g1, g2]
    simp only [Option.bind_some]
    have hi : bellwetherref06_Ints.f 10000 v v = some true := by
      unfold bellwetherref06_Ints.f
      rw [if_pos rfl]
      exact ints_same v g3 v.length 10000 0 (by omega) (by omega)
    rw [hi, known_big (by omega)]
    rfl
  · rw [if_neg h1, known_big (by omega)]
    rfl
end Go.Proofs.Ytmdnmofcgmmfbaa.windowSince
