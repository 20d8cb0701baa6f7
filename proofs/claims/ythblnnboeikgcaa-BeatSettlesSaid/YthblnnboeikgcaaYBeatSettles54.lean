import Derived.Test.YthblnnboeikgcaaYBeatSettles53
set_option linter.unusedVariables false
set_option linter.unusedSimpArgs false
namespace Go.Proofs.Ythblnnboeikgcaa.beatSettles
open Go.RowKit Go.Proofs.Ythblnnboeikgcaa.B Go.Proofs.YthblnnboeikgcaaW.PrintWords Go.Proofs.Ythblnnboeikgcaa.ConfLib Go.Proofs.Ythblnnboeikgcaa.KingLib Go.Proofs.Ythblnnboeikgcaa.VecLib Go.Proofs.Ythblnnboeikgcaa.PipeLib Go.Proofs.Ythblnnboeikgcaa.BeatLib
theorem settle_at (n f d p r dr o s m fr : Int) (t : List Int) (hp : plain n f d p r dr o s m fr t = 0) {k : Nat} (hk : 700 < k) : r04Settle.f k n f d p r dr o s m fr t = some (1 + 4 * ConfLib.length n f d p r dr o s m fr t + 2 * p) := by
  have hf := plain_facts hp
  have hm := mul_d (f := f) (d := d) (by omega) (by omega)
  have hl := length_facts n f d p r dr o s m fr t
  unfold r04Settle.f
  rw [ref_plain_at n f d p r dr o s m fr t hk]
  simp only [Option.bind_some]
  rw [if_pos hp, ref_length_at n f d p r dr o s m fr t hk]
  simp only [Option.bind_some]
  rw [ConfLib.wrap_small (n := 4 * ConfLib.length n f d p r dr o s m fr t) (by omega) (by omega), ConfLib.wrap_small (n := 1 + 4 * ConfLib.length n f d p r dr o s m fr t) (by omega) (by omega), ConfLib.wrap_small (n := 2 * p) (by omega) (by omega), ConfLib.wrap_small (n := 1 + 4 * ConfLib.length n f d p r dr o s m fr t + 2 * p) (by omega) (by omega)]
theorem row_bt {m : Nat} (g : Nat → Int) (hg : ∀ i, g i = 0 ∨ g i = 1) {i : Nat} (hi : i < m) : bt (txt ((List.range m).map g)) (i : Int) = 48 + g i := by
  have hget := KW.getD_range g 0 hi
  have h := hg i
  rw [txt_bt _ (by rw [List.length_map, List.length_range]; exact hi) (by rw [hget]; omega) (by rw [hget]; omega), hget]
theorem row_part {m : Nat} (g : Nat → Int) {i : Nat} (hi : i < m) : (txt ((List.range m).map g)).extract i (i + 1) = txt [g i] := by
  rw [txt_extract, show i + 1 - i = 1 by omega]
  congr 1
  refine List.ext_getElem? (fun j => ?_)
  rw [List.getElem?_take]
  by_cases h : j < 1
  · obtain rfl : j = 0 := by omega
    rw [if_pos h, List.getElem?_drop, List.getElem?_map, List.getElem?_range (by omega)]
    rfl
  · rw [if_neg h, List.getElem?_eq_none (by show 1 ≤ j; omega)]
theorem pure : Pure := by
  rintro ⟨⟨n, f, d, p, r, dr, o, s, m, fr, t⟩, PP, SS, F, LL⟩ x _ _
  refine Ev.rounds (r := true) ?_
  show Ev (fun k => l18BeatSettles.f k n f d p r dr o s m fr t PP SS F LL x) true
  have out : Ev (fun k => l18BeatSettles.j0 k x true n f d p r dr o s m fr t PP SS F LL) true := Ev.step (fun k => l18BeatSettles.j0.eq_2 ..) (Ev.pos rfl last)
  refine Ev.congr (fun k => l18BeatSettles.f.eq_1 ..) (Ev.bind (Ev.from 700 (fun k hk => ref_plain_at n f d p r dr o s m fr t hk)) ?_)
  by_cases hp : plain n f d p r dr o s m fr t = 0
  case neg => exact Ev.neg hp out
  refine Ev.pos hp ?_
  by_cases h1 : (PP.length : Int) = n
  case neg => exact Ev.neg h1 out
  refine Ev.pos h1 ?_
  by_cases h2 : (SS.length : Int) = n
  case neg => exact Ev.neg h2 out
  refine Ev.pos h2 ?_
  by_cases h3 : (F.length : Int) > f
  · exact Ev.pos h3 out
  refine Ev.neg h3 ?_
  by_cases h4 : (LL.length : Int) > 1000
  · exact Ev.pos h4 out
  refine Ev.neg h4 ?_
  by_cases h5 : x < 0
  · exact Ev.pos h5 out
  refine Ev.neg h5 ?_
  by_cases h6 : x > 100
  · rw [decide_eq_true h6]
    exact out
  rw [decide_eq_false h6]
  have hf := plain_facts hp
  have hm := mul_d (f := f) (d := d) (by omega) (by omega)
  have hl3 := len_pos n f d p r dr o s m fr t hp
  have hl := length_facts n f d p r dr o s m fr t
  have hbad : KingMath.bad n.toNat (hon F) ≤ f.toNat := Nat.le_trans (bad_few n.toNat F) (by omega)
  refine Ev.step (fun k => l18BeatSettles.j0.eq_2 ..) (Ev.neg Bool.false_ne_true (Ev.bind (Ev.from 700 (fun k hk => settle_at n f d p r dr o s m fr t hp hk)) ?_))
  obtain ⟨S0, hS0⟩ : ∃ S0 : Nat, 1 + 4 * ConfLib.length n f d p r dr o s m fr t + 2 * p = (S0 : Int) := ⟨(1 + 4 * ConfLib.length n f d p r dr o s m fr t + 2 * p).toNat, by omega⟩
  obtain ⟨y, rfl⟩ : ∃ y : Nat, x = (y : Int) := ⟨x.toNat, by omega⟩
  rw [hS0, ConfLib.wrap_small (n := (S0 : Int) + (y : Int)) (by omega) (by omega), show (S0 : Int) + (y : Int) = ((S0 + y : Nat) : Int) by omega]
  refine Ev.bind (runs_ev PP SS F LL hp (by omega) (by omega) h1 h2 (S0 + y) (by omega)) ?_
  obtain ⟨Z, z1, z2, all⟩ := all_settle PP SS F LL hp hbad
  obtain ⟨h0, hh1, hh2⟩ := honest_one F hp hbad
  have bits := end_bit PP SS F LL (n := n) (f := f) (d := d) (p := p) (r := r) (dr := dr) (o := o) (s := s) (m := m) (fr := fr) (t := t)
  have hlen : (rowsB n f d p r dr o s m fr t PP SS F LL (S0 + y)).length = S0 + y := by simp [rowsB]
  have sw : ∀ i : Nat, i ≤ 3000 → wrap64 ((i : Int) + 1) = ((i + 1 : Nat) : Int) := fun i hi => by rw [ConfLib.wrap_small (by omega) (by omega)]; rfl
  have sw := Sd.mk sw
  have look : ∀ h : Nat, h < n.toNat → hon F h = true → ∀ (w u : Nat), u + w = S0 + y → Ev (fun k => l18BeatSettles.l1 k (S0 : Int) (rowsB n f d p r dr o s m fr t PP SS F LL (S0 + y)) (h : Int) (txt ((List.range u).map (fun (q : Nat) => endB n f d p r dr o s m fr t PP SS F LL q h))) (u : Int) n f d p r dr o s m fr t PP SS F LL) true := by
    intro h hh hh2 w
    induction w with
    | zero =>
      intro u hu
      obtain rfl : u = S0 + y := by omega
      refine Ev.step (fun k => l18BeatSettles.l1.eq_2 ..) (Ev.neg (by omega) (Ev.bind ?_ (Ev.pos rfl last)))
      have hsz : (txt ((List.range (S0 + y)).map (fun (q : Nat) => endB n f d p r dr o s m fr t PP SS F LL q h))).size = S0 + y := by rw [txt_size, List.length_map, List.length_range]
      refine regular_ev n f d p r dr o s m fr t _ Z S0 (by omega) (by omega) (by omega) (by omega) ?_ ?_
      · intro v hv hv2
        rw [row_bt _ (fun q => bits q h) (by omega), ← all v hv h hh hh2]
        constructor <;> intro e <;> omega
      · intro v hv
        have := bits v h
        rw [row_bt _ (fun q => bits q h) (by omega)]
        omega
    | succ w ih =>
      intro u hu
      have go := ih (u + 1) (by omega)
      have hu2 : u < S0 + y := by omega
      have hrow : rdOf ByteArray.empty (rowsB n f d p r dr o s m fr t PP SS F LL (S0 + y)) (u : Int) = txt ((List.range n.toNat).map (fun (k : Nat) => endB n f d p r dr o s m fr t PP SS F LL u k)) := rdT_range _ hu2
      have hrs : (txt ((List.range n.toNat).map (fun (k : Nat) => endB n f d p r dr o s m fr t PP SS F LL u k))).size = n.toNat := by rw [txt_size, List.length_map, List.length_range]
      have same : ∀ (q i : Nat), i + q = n.toNat → Ev (fun k => l18BeatSettles.l2 k (S0 : Int) (rowsB n f d p r dr o s m fr t PP SS F LL (S0 + y)) (h : Int) (txt ((List.range u).map (fun (q : Nat) => endB n f d p r dr o s m fr t PP SS F LL q h))) (u : Int) (i : Int) n f d p r dr o s m fr t PP SS F LL) true := by
        intro q
        induction q with
        | zero =>
          intro i hi
          refine Ev.step (fun k => l18BeatSettles.l2.eq_2 ..) (Ev.neg (by omega) (Ev.pos (by omega) (Ev.pos (by omega) (Ev.pos (by omega) ?_))))
          rw [hrow, sw.out h (by omega)]
          refine Ev.pos (by omega) (Ev.pos (by omega) (Ev.pos ?_ ?_))
          · rw [txt_size, List.length_map, List.length_range]
            omega
          · rw [sw.out u (by omega), Int.toNat_natCast, Int.toNat_natCast, row_part _ hh, ← txt_append]
            rw [← range_snoc (fun (q : Nat) => endB n f d p r dr o s m fr t PP SS F LL q h) u] at go
            exact go
        | succ q ih2 =>
          intro i hi
          have go2 := ih2 (i + 1) (by omega)
          rw [← sw.out i (by omega)] at go2
          have hin : i < n.toNat := by omega
          refine Ev.step (fun k => l18BeatSettles.l2.eq_2 ..) (Ev.pos (by omega) ?_)
          by_cases hS : (u : Int) ≥ (S0 : Int)
          case neg => exact Ev.neg hS go2
          refine Ev.pos hS (Ev.bind (in_ev F (by omega) (i : Int)) ?_)
          by_cases hc : F.contains (i : Int) = true
          · exact Ev.pos hc go2
          · have hi2 : hon F i = true := by unfold hon; simpa using hc
            refine Ev.neg hc (Ev.pos (by omega) (Ev.pos (by omega) (Ev.pos (by omega) ?_)))
            rw [hrow]
            refine Ev.pos (by omega) (Ev.pos (by omega) (Ev.pos (by omega) (Ev.pos ?_ go2)))
            rw [row_bt _ (fun k => bits u k) hin, row_bt _ (fun k => bits u k) hh]
            have a1 := all u (by omega) i hin hi2
            have a2 := all u (by omega) h hh hh2
            have b1 := bits u i
            have b2 := bits u h
            have e : endB n f d p r dr o s m fr t PP SS F LL u i = 1 ↔ endB n f d p r dr o s m fr t PP SS F LL u h = 1 := a1.trans a2.symm
            omega
      exact Ev.step (fun k => l18BeatSettles.l1.eq_2 ..) (Ev.pos (by omega) (same n.toNat 0 (by omega)))
  have find : ∀ (q i : Nat), i + q = h0 → Ev (fun k => l18BeatSettles.l0 k (S0 : Int) (rowsB n f d p r dr o s m fr t PP SS F LL (S0 + y)) (i : Int) n f d p r dr o s m fr t PP SS F LL) true := by
    intro q
    induction q with
    | zero =>
      intro i hi
      obtain rfl : i = h0 := by omega
      have hc : ¬ F.contains (i : Int) = true := by unfold hon at hh2; simpa using hh2
      refine Ev.step (fun k => l18BeatSettles.l0.eq_2 ..) (Ev.pos (by omega) (Ev.bind (in_ev F (by omega) (i : Int)) (Ev.neg hc ?_)))
      exact Ev.step (fun k => l18BeatSettles.j2.eq_2 ..) (look i hh1 hh2 (S0 + y) 0 (by omega))
    | succ q ih =>
      intro i hi
      have go := ih (i + 1) (by omega)
      rw [← sw.out i (by omega)] at go
      refine Ev.step (fun k => l18BeatSettles.l0.eq_2 ..) (Ev.pos (by omega) (Ev.bind (in_ev F (by omega) (i : Int)) ?_))
      by_cases hc : F.contains (i : Int) = true
      · exact Ev.pos hc go
      · have hi2 : hon F i = true := by unfold hon; simpa using hc
        refine Ev.neg hc ?_
        exact Ev.step (fun k => l18BeatSettles.j2.eq_2 ..) (look i (by omega) hi2 (S0 + y) 0 (by omega))
  exact find h0 0 (by omega)
end Go.Proofs.Ythblnnboeikgcaa.beatSettles
