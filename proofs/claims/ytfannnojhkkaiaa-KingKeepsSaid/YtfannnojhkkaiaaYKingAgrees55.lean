import Derived.Test.YtfannnojhkkaiaaYKingAgrees54
import Derived.Test.YtfannnojhkkaiaaYKingAgrees47
import Derived.Test.YtfannnojhkkaiaaYKingAgrees50
set_option linter.unusedVariables false
set_option linter.unusedSimpArgs false
namespace Go.Proofs.Ytfannnojhkkaiaa.kingKeeps
open Go.RowKit Go.Proofs.Ytfannnojhkkaiaa.X Go.Proofs.YtfannnojhkkaiaaW.PrintWords Go.Proofs.Ytfannnojhkkaiaa.ConfLib Go.Proofs.Ytfannnojhkkaiaa.KingLib Go.Proofs.Ytfannnojhkkaiaa.kingSteps
section
variable (n f d p r dr o s m fr : Int) (t F L : List Int)
def all_ (v : Int) : List Int := (List.range n.toNat).map (fun (k : Nat) => if F.contains (k : Int) then 1 - v else v)
theorem all_len (v : Int) : (all_ n F v).length = n.toNat := by simp [all_]
theorem loop1 (hp : plain n f d p r dr o s m fr t = 0) (hF : F.length ≤ 20) (v : Int) (hv : v = 0 ∨ v = 1) (T : List Int) (hl : T.length = n.toNat) (h : ∀ i, i < n.toNat → F.contains (i : Int) = false → rd T (i : Int) = v) (q : Nat) :
    ∀ i : Nat, i + q = n.toNat → Ev (fun k => bellwetherlaw14_KingKeeps.l1 k F v T (i : Int) n f d p r dr o s m fr t) true := by
  have hb := plain_facts hp
  induction q with
  | zero =>
    intro i hi
    refine Ev.step (fun k => bellwetherlaw14_KingKeeps.l1.eq_2 ..) ?_
    exact Ev.neg (by omega) last
  | succ q ih =>
    intro i hi
    have go := ih (i + 1) (by omega)
    rw [← succ_w (by omega)] at go
    refine Ev.step (fun k => bellwetherlaw14_KingKeeps.l1.eq_2 ..) ?_
    refine Ev.pos (by omega) (Ev.bind (in_ev F (by omega) (i : Int)) ?_)
    by_cases hcc : F.contains (i : Int) = true
    · exact Ev.pos hcc go
    · have hcf : F.contains (i : Int) = false := by simpa using hcc
      exact Ev.neg hcc (Ev.pos (by omega) (Ev.pos (by omega) (Ev.pos (h i (by omega) hcf) go)))
theorem loop0 (hp : plain n f d p r dr o s m fr t = 0) (hF : F.length ≤ 20) (hbad : KingMath.bad n.toNat (hon F) ≤ f.toNat) (v : Int) (hv : v = 0 ∨ v = 1) (q : Nat) :
    ∀ i : Nat, i + q = n.toNat → Ev (fun k => bellwetherlaw14_KingKeeps.l0 k F L v ((all_ n F v).take i) (i : Int) n f d p r dr o s m fr t) true := by
  have hb := plain_facts hp
  have he := all_len n F v
  induction q with
  | zero =>
    intro i hi
    have hl := play_len n f d p r dr o s m fr t F L hp (all_ n F v)
    have h := play_keeps n f d p r dr o s m fr t F L hp hbad (all_ n F v) hv (fun i hi hc => by
      rw [rd_getD]
      unfold all_
      rw [KW.getD_range _ 0 hi, if_neg (by rw [hc]; decide)])
    refine Ev.step (fun k => bellwetherlaw14_KingKeeps.l0.eq_2 ..) ?_
    rw [List.take_of_length_le (by omega)]
    refine Ev.neg (by omega) (Ev.bind (Ev.from 30 (fun k hk => play_at n f d p r dr o s m fr t F L hF _ hk)) ?_)
    refine Ev.pos (by omega) ?_
    exact loop1 n f d p r dr o s m fr t F hp hF v hv _ hl h n.toNat 0 (by omega)
  | succ q ih =>
    intro i hi
    have go := ih (i + 1) (by omega)
    have hs : ((all_ n F v).take i) ++ [if F.contains (i : Int) then 1 - v else v] = (all_ n F v).take (i + 1) := by
      unfold all_
      exact take_map_succ (fun (k : Nat) => if F.contains (k : Int) then 1 - v else v) (by omega)
    rw [← succ_w (by omega), ← hs] at go
    have hl : ((all_ n F v).take i).length < 17592186044416 := Nat.lt_of_le_of_lt (m := 13) (by rw [List.length_take]; omega) (by decide)
    refine Ev.step (fun k => bellwetherlaw14_KingKeeps.l0.eq_2 ..) ?_
    refine Ev.pos (by omega) (Ev.bind (in_ev F (by omega) (i : Int)) ?_)
    by_cases hcc : F.contains (i : Int) = true
    · rw [if_pos hcc] at go
      refine Ev.pos hcc (Ev.pos hl ?_)
      rw [ConfLib.wrap_small (n := 1 - v) (by omega) (by omega)]
      exact go
    · rw [if_neg hcc] at go
      exact Ev.neg hcc (Ev.pos hl go)
end
theorem pure : Pure := by
  rintro ⟨n, f, d, p, r, dr, o, s, m, fr, t⟩ b F L _ _ _ _
  refine Ev.rounds (r := true) ?_
  refine Ev.congr (fun k => bellwetherlaw14_KingKeeps.f.eq_1 ..) ?_
  refine Ev.bind (few_ev n f d p r dr o s m fr t F) ?_
  by_cases hfew : few n f d p r dr o s m fr t F = true
  · refine Ev.pos hfew ?_
    obtain ⟨hp, hF, hc⟩ := of_decide_eq_true hfew
    have hb := plain_facts hp
    have hbad : KingMath.bad n.toNat (hon F) ≤ f.toNat := by rw [bad_count]; omega
    have go : ∀ v : Int, (v = 0 ∨ v = 1) → Ev (fun k => bellwetherlaw14_KingKeeps.j0 k F L v n f d p r dr o s m fr t) true := fun v hv => by
      refine Ev.step (fun k => bellwetherlaw14_KingKeeps.j0.eq_2 ..) ?_
      exact loop0 n f d p r dr o s m fr t F L hp hF hbad v hv n.toNat 0 (by omega)
    cases b with
    | true => exact Ev.pos rfl (go 1 (.inr rfl))
    | false => exact Ev.neg (by decide) (go 0 (.inl rfl))
  · exact Ev.neg hfew last
end Go.Proofs.Ytfannnojhkkaiaa.kingKeeps
