import Derived.Test.YtmdnmofcgmmfbaaYWindowRegular27
import Derived.Test.YtmdnmofcgmmfbaaYWindowRegular32
import Derived.Test.YtmdnmofcgmmfbaaYWindowRegular20
set_option linter.unusedVariables false
set_option linter.unusedSimpArgs false
namespace Go.Proofs.Ytmdnmofcgmmfbaa.windowRegular
open Go.RowKit Go.Proofs.Ytmdnmofcgmmfbaa.X Go.Proofs.YtmdnmofcgmmfbaaW.PrintWords Go.Proofs.YtmdnmofcgmmfbaaW.PrintMore Go.Proofs.Ytmdnmofcgmmfbaa.ConfLib Go.Proofs.Ytmdnmofcgmmfbaa.WinLib
theorem known_2000 : bellwetherlaw37_known.f 2000 = some true := by decide +kernel
theorem known {k : Nat} (hk : 2000 ≤ k) : bellwetherlaw37_known.f k = some true := by
  obtain ⟨j, rfl⟩ : ∃ j, k = 2000 + j := ⟨k - 2000, by omega⟩
  induction j with
  | zero => exact known_2000
  | succ j ih => exact bellwetherlaw37_known.mono _ _ (ih (by omega))
theorem i64_bounds {n : Int} (h : (Lit.int .i64 n).wf = true) : -9223372036854775808 ≤ n ∧ n ≤ 9223372036854775807 := by
  simp [Lit.wf, IntKind.min, IntKind.max, IntKind.signed, IntKind.bits] at h
  omega
theorem pure : Pure := by
  rintro ⟨n, f, d, p, r, dr, o, s, m, fr, t⟩ l ns a _ _ _ ha
  have hab := i64_bounds ha
  refine ⟨130000, ?_⟩
  have ht : ∀ k, 3000 ≤ k → bellwetherlaw37_WindowRegular.j0 k l ns a true n f d p r dr o s m fr t = some true := by
    intro k hk
    obtain ⟨k, rfl⟩ : ∃ j, k = j + 1 := ⟨k - 1, by omega⟩
    simp only [bellwetherlaw37_WindowRegular.j0]
    rw [if_pos trivial, known (by omega)]
    rfl
  unfold bellwetherlaw37_WindowRegular.f
  obtain ⟨b, e, hb⟩ : ∃ b, bellwetherref36_Few.f 130000 l 200 = some b ∧ (b = true → (l.length : Int) ≤ 200) := by
    obtain ⟨b, e⟩ := few_some l (k := 130000) (by omega)
    exact ⟨b, e, few_len e⟩
  rw [e]
  simp only [Option.bind_some]
  by_cases h1 : b = true
  · have hl := hb h1
    rw [if_pos h1]
    by_cases h2 : (ns.length : Int) > 20
    · rw [decide_eq_true h2]
      exact ht _ (by omega)
    · rw [decide_eq_false h2]
      rw [show 130000 = 129999 + 1 from rfl]
      simp only [bellwetherlaw37_WindowRegular.j0]
      rw [if_neg (by decide), common_at l ns (by omega) a (by omega), ref_common_at l ns (by omega) a (by omega)]
      simp only [Option.bind_some]
      rw [if_pos (by simp)]
      obtain ⟨x, y, e1, e2, h3⟩ : ∃ x y, window_Regular.f 129999 n f d p r dr o s m fr t l ns a = some x ∧ bellwetherref37_Regular.f 129999 n f d p r dr o s m fr t l ns a = some y ∧ x = y := by
        by_cases hp : plain n f d p r dr o s m fr t = 0
        · by_cases h0 : ns.length = 0
          · refine ⟨0, 0, ?_, ?_, rfl⟩
            · unfold window_Regular.f
              rw [plain_at n f d p r dr o s m fr t (by omega)]
              simp only [Option.bind_some]
              rw [if_pos hp, if_pos (by omega)]
            · unfold bellwetherref37_Regular.f
              rw [ref_plain_at n f d p r dr o s m fr t (by omega)]
              simp only [Option.bind_some]
              rw [if_pos hp, if_pos (by omega)]
          · obtain ⟨x, e1, g1⟩ := win_regular n f d p r dr o s m fr t l (by omega) ns (by omega) h0 a hp (k := 129999) (by omega)
            obtain ⟨y, e2, g2⟩ := ref_regular n f d p r dr o s m fr t l (by omega) ns (by omega) h0 a (by omega) hp (k := 129999) (by omega)
            exact ⟨x, y, e1, e2, g1.one g2⟩
        · refine ⟨plain n f d p r dr o s m fr t, plain n f d p r dr o s m fr t, ?_, ?_, rfl⟩
          · unfold window_Regular.f
            rw [plain_at n f d p r dr o s m fr t (by omega)]
            simp only [Option.bind_some]
            rw [if_neg hp]
          · unfold bellwetherref37_Regular.f
            rw [ref_plain_at n f d p r dr o s m fr t (by omega)]
            simp only [Option.bind_some]
            rw [if_neg hp]
      rw [e1, e2]
      simp only [Option.bind_some]
      rw [if_pos h3, known (by omega)]
      rfl
  · rw [if_neg h1]
    exact ht _ (by omega)
end Go.Proofs.Ytmdnmofcgmmfbaa.windowRegular
