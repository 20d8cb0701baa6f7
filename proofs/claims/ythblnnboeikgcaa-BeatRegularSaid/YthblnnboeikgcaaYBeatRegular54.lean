import Derived.Test.YthblnnboeikgcaaYBeatRegular53
set_option linter.unusedVariables false
set_option linter.unusedSimpArgs false
namespace Go.Proofs.Ythblnnboeikgcaa.beatRegular
open Go.RowKit Go.Proofs.Ythblnnboeikgcaa.B Go.Proofs.YthblnnboeikgcaaW.PrintWords Go.Proofs.Ythblnnboeikgcaa.ConfLib Go.Proofs.Ythblnnboeikgcaa.KingLib Go.Proofs.Ythblnnboeikgcaa.VecLib Go.Proofs.Ythblnnboeikgcaa.PipeLib Go.Proofs.Ythblnnboeikgcaa.BeatLib
theorem pure : Pure := by
  rintro ⟨n, f, d, p, r, dr, o, s, m, fr, t⟩ a S x _ _ _ _
  refine Ev.rounds (r := true) ?_
  show Ev (fun k => l18BeatRegular.f k n f d p r dr o s m fr t a S x) true
  have out : Ev (fun k => l18BeatRegular.j0 k a S x true n f d p r dr o s m fr t) true := Ev.step (fun k => l18BeatRegular.j0.eq_2 ..) (Ev.pos rfl last)
  refine Ev.congr (fun k => l18BeatRegular.f.eq_1 ..) (Ev.bind (Ev.from 700 (fun k hk => ref_plain_at n f d p r dr o s m fr t hk)) ?_)
  by_cases hp : plain n f d p r dr o s m fr t = 0
  case neg => exact Ev.neg hp out
  refine Ev.pos hp ?_
  by_cases h1 : x < 0
  · exact Ev.pos h1 out
  refine Ev.neg h1 ?_
  by_cases h2 : x > 300
  · exact Ev.pos h2 out
  refine Ev.neg h2 ?_
  by_cases h3 : (S.size : Int) > 200
  · rw [decide_eq_true h3]
    exact out
  rw [decide_eq_false h3]
  have hf := plain_facts hp
  have hm := mul_d (f := f) (d := d) (by omega) (by omega)
  have hl3 := len_pos n f d p r dr o s m fr t hp
  have hl := length_facts n f d p r dr o s m fr t
  refine Ev.step (fun k => l18BeatRegular.j0.eq_2 ..) (Ev.neg Bool.false_ne_true (Ev.bind (Ev.from 700 (fun k hk => ref_length_at n f d p r dr o s m fr t hk)) ?_))
  rw [ConfLib.wrap_small (n := 2 * ConfLib.length n f d p r dr o s m fr t) (by omega) (by omega), ConfLib.wrap_small (n := p + 2 * ConfLib.length n f d p r dr o s m fr t) (by omega) (by omega), ConfLib.wrap_small (n := p + 2 * ConfLib.length n f d p r dr o s m fr t + x) (by omega) (by omega)]
  refine Ev.bind (alone_ev n f d p r dr o s m fr t a S _) ?_
  have B := beat_of n f d p r dr o s m fr t hp (fun u => eA n f d p r dr o s m fr t a S u) (fun u => sA n f d p r dr o s m fr t a S u) (fun _ => 0) (fun u => sA_succ n f d p r dr o s m fr t a S u) (fun u => by
    have h := eA_high n f d p r dr o s m fr t a S u (by omega)
    rw [Nat.add_comm] at h
    exact h)
  obtain ⟨L, hL, St⟩ := BeatMath.settles B
  have all := BeatMath.steady_all B St
  have hsz : (aloneV n f d p r dr o s m fr t a S (p + 2 * ConfLib.length n f d p r dr o s m fr t + x)).size = (p + 2 * ConfLib.length n f d p r dr o s m fr t + x).toNat := by
    unfold aloneV
    rw [if_pos hp, txt_size, List.length_map, List.length_range]
    omega
  have hbt : ∀ u : Nat, u < (p + 2 * ConfLib.length n f d p r dr o s m fr t + x).toNat → bt (aloneV n f d p r dr o s m fr t a S (p + 2 * ConfLib.length n f d p r dr o s m fr t + x)) (u : Int) = 48 + eA n f d p r dr o s m fr t a S u := by
    intro u hu
    have hr := eA_range n f d p r dr o s m fr t a S u
    have hg := KW.getD_range (fun i => eA n f d p r dr o s m fr t a S i) 0 (m := (min (p + 2 * ConfLib.length n f d p r dr o s m fr t + x) 2000).toNat) (j := u) (by omega)
    unfold aloneV
    rw [if_pos hp, txt_bt _ (by rw [List.length_map, List.length_range]; omega) (by rw [hg]; exact hr.1) (by rw [hg]; omega), hg]
  refine Ev.pos (by omega) (Ev.bind ?_ (Ev.pos rfl last))
  rw [show p + 2 * ConfLib.length n f d p r dr o s m fr t = ((p + 2 * ConfLib.length n f d p r dr o s m fr t).toNat : Int) by omega] at *
  refine regular_ev n f d p r dr o s m fr t _ L _ (by omega) (by omega) (by omega) (by omega) ?_ ?_
  · intro u hu hu2
    rw [hbt u (by omega), ← all u hu, show (48 + eA n f d p r dr o s m fr t a S u = 49) = (eA n f d p r dr o s m fr t a S u = 1) from propext ⟨fun h => by omega, fun h => by omega⟩]
    exact beq_iff_eq.symm
  · intro u hu
    have hr := eA_range n f d p r dr o s m fr t a S u
    rw [hbt u (by omega)]
    omega
end Go.Proofs.Ythblnnboeikgcaa.beatRegular
