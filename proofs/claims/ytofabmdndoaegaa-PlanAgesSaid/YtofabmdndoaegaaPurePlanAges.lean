/- Exchanges, and when they are told, are gone through as the document says, and as far as one likes. -/
import Derived.Test.YtofabmdndoaegaaSPlanAges
import Derived.Test.YtofabmdndoaegaaPlanLib
import Derived.Test.YtofabmdndoaegaaXx8
import Derived.Test.YtofabmdndoaegaaXx9
set_option linter.unusedVariables false
set_option linter.unusedSimpArgs false
namespace Go.Proofs.Ytofabmdndoaegaa.planAges
open Go.RowKit Go.Proofs.Ytofabmdndoaegaa.X Go.Proofs.YtofabmdndoaegaaW.PrintWords Go.Proofs.Ytofabmdndoaegaa.ConfLib Go.Proofs.Ytofabmdndoaegaa.PlanLib
theorem known : bellwetherlaw15_known.f 2000 = some true := by decide +kernel
theorem ages_loop (n f d p r dr o s m fr : Int) (t : List Int) (q : Nat) : ∀ (i k : Nat), i + q = (ConfLib.rounds n f d p r dr o s m fr t).toNat → 800 + q < k →
    bellwetherref15_Ages.l0 k ((List.range i).map (fun (j : Nat) => (j : Int) * d)) (i : Int) n f d p r dr o s m fr t = some ((List.range (ConfLib.rounds n f d p r dr o s m fr t).toNat).map (fun (j : Nat) => (j : Int) * d)) := by
  have hr := rounds_facts (n := n) (f := f) (d := d) (p := p) (r := r) (dr := dr) (o := o) (s := s) (m := m) (fr := fr) (t := t)
  induction q with
  | zero =>
    intro i k hi hk
    obtain ⟨k, rfl⟩ : ∃ j, k = j + 1 := ⟨k - 1, by omega⟩
    simp only [bellwetherref15_Ages.l0]
    rw [ref_rounds_at n f d p r dr o s m fr t (by omega)]
    simp only [Option.bind_some]
    rw [if_neg (by omega), show i = (ConfLib.rounds n f d p r dr o s m fr t).toNat by omega]
  | succ q ih =>
    intro i k hi hk
    obtain ⟨k, rfl⟩ : ∃ j, k = j + 1 := ⟨k - 1, by omega⟩
    have go := ih (i + 1) k (by omega) (by omega)
    have hp : plain n f d p r dr o s m fr t = 0 := by
      by_cases hp : plain n f d p r dr o s m fr t = 0
      · exact hp
      · have : ConfLib.rounds n f d p r dr o s m fr t = 0 := by unfold ConfLib.rounds; rw [if_neg hp]
        omega
    have hf := plain_facts hp
    have hm := mul_small (x := (i : Int)) (d := d) (by omega) (by omega) (by omega)
    simp only [bellwetherref15_Ages.l0]
    rw [ref_rounds_at n f d p r dr o s m fr t (by omega)]
    simp only [Option.bind_some]
    rw [if_pos (by omega), ConfLib.wrap_small (n := (i : Int) * d) (by omega) (by omega), ConfLib.wrap_small (n := (i : Int) + 1) (by omega) (by omega), if_pos (by rw [List.length_map, List.length_range]; omega)]
    rw [List.range_succ, List.map_append] at go
    exact go
theorem pure : Pure := by
  rintro ⟨n, f, d, p, r, dr, o, s, m, fr, t⟩ stop _ _
  have hr := rounds_facts (n := n) (f := f) (d := d) (p := p) (r := r) (dr := dr) (o := o) (s := s) (m := m) (fr := fr) (t := t)
  refine ⟨2000, ?_⟩
  show bellwetherlaw15_PlanAges.f 2000 n f d p r dr o s m fr t stop = some true
  unfold bellwetherlaw15_PlanAges.f bellwetherref15_Ages.f
  have h := ages_loop n f d p r dr o s m fr t (ConfLib.rounds n f d p r dr o s m fr t).toNat 0 2000 (by omega) (by omega)
  rw [show (([] : List Int)) = (List.range 0).map (fun (j : Nat) => (j : Int) * d) from rfl, show (0 : Int) = ((0 : Nat) : Int) from rfl, h]
  simp only [Option.bind_some]
  rw [rounds_at n f d p r dr o s m fr t (by omega)]
  simp only [Option.bind_some]
  rw [known]
  simp only [Option.bind_some]
  rw [if_pos]
  refine ⟨hr.1, hr.2, ?_, rfl, rfl⟩
  by_cases hp : plain n f d p r dr o s m fr t = 0
  · have hf := plain_facts hp
    exact .inr ⟨by omega, by omega⟩
  · exact .inl (by unfold ConfLib.rounds; rw [if_neg hp])
end Go.Proofs.Ytofabmdndoaegaa.planAges
