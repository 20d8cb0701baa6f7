import Derived.Test.YthblnnboeikgcaaYBeatSettles49
section
set_option linter.unusedVariables false
set_option linter.unusedSimpArgs false
set_option linter.unusedSectionVars false
namespace Go.Proofs.Ythblnnboeikgcaa.BeatLib
open Go.RowKit Go.Proofs.Ythblnnboeikgcaa.B Go.Proofs.YthblnnboeikgcaaW.PrintWords Go.Proofs.YthblnnboeikgcaaW.PrintMore Go.Proofs.Ythblnnboeikgcaa.ConfLib Go.Proofs.Ythblnnboeikgcaa.TallyLib Go.Proofs.Ythblnnboeikgcaa.KingLib Go.Proofs.Ythblnnboeikgcaa.VecLib Go.Proofs.Ythblnnboeikgcaa.PlanLib Go.Proofs.Ythblnnboeikgcaa.PipeLib
theorem known : Ev (fun k => l18known.f k) true := Ev.of l18known.mono (show l18known.f 1000 = some true by decide +kernel)
theorem last : Ev (fun k => (l18known.f k).bind fun t => some t) true := Ev.bind known (Ev.val rfl)
section
variable (n f d p r dr o s m fr : Int) (t : List Int)
theorem regular_ev (X : ByteArray) (L i0 : Nat) (hL : L ≤ i0) (hp0 : 1 ≤ p) (hp1 : p ≤ 400) (hX : X.size ≤ 4000)
    (hb : ∀ u : Nat, L ≤ u → u < X.size → (bt X (u : Int) = 49 ↔ (u - L) % p.toNat = 0)) (h2 : ∀ u : Nat, u < X.size → bt X (u : Int) = 48 ∨ bt X (u : Int) = 49) :
    Ev (fun k => l18regular.f k n f d p r dr o s m fr t X (i0 : Int)) true := by
  obtain ⟨P, rfl⟩ : ∃ P : Nat, p = (P : Int) := ⟨p.toNat, by omega⟩
  rw [Int.toNat_natCast] at hb
  have key : ∀ (q i : Nat), i0 ≤ i → X.size ≤ i + q → Ev (fun k => l18regular.l0 k X (i : Int) n f d (P : Int) r dr o s m fr t) true := by
    intro q
    induction q with
    | zero =>
      intro i hi hq
      exact Ev.step (fun k => l18regular.l0.eq_2 ..) (Ev.neg (by omega) (Ev.val rfl))
    | succ q ih =>
      intro i hi hq
      by_cases hlt : i < X.size
      case neg => exact Ev.step (fun k => l18regular.l0.eq_2 ..) (Ev.neg (by omega) (Ev.val rfl))
      have hw : Sd (wrap64 ((i : Int) + (P : Int)) = ((i + P : Nat) : Int)) := ⟨by rw [ConfLib.wrap_small (by omega) (by omega)]; omega⟩
      have hn : Sd (wrap64 ((i : Int) + 1) = ((i + 1 : Nat) : Int)) := ⟨by rw [ConfLib.wrap_small (by omega) (by omega)]; omega⟩
      have go := ih (i + 1) (by omega) (by omega)
      obtain ⟨w, w0, w1, hwin⟩ := BeatMath.window (L := L) (i := i) (P := P) (by omega) (by omega)
      have fin : ∀ (j : Nat) (c : Int), i ≤ j → j ≤ i + P → (i + P ≤ X.size → j = i + P) → c = (if w < j then 1 else 0) → Ev (fun k => l18regular.j3 k X (i : Int) c (j : Int) false n f d (P : Int) r dr o s m fr t) true := by
        intro j c h1 h3 h4 hc
        refine Ev.step (fun k => l18regular.j3.eq_2 ..) (Ev.neg Bool.false_ne_true ?_)
        refine Ev.neg (by rw [hc]; split <;> omega) ?_
        rw [hw.out, hn.out]
        by_cases h5 : i + P ≤ X.size
        · refine Ev.pos (by omega) (Ev.pos ?_ go)
          rw [hc, if_pos (by have := h4 h5; omega)]
        · exact Ev.neg (by omega) go
      have count : ∀ (q2 j : Nat) (c : Int), i ≤ j → j + q2 = min (i + P) X.size → c = (if w < j then 1 else 0) → Ev (fun k => l18regular.l1 k X (i : Int) c (j : Int) n f d (P : Int) r dr o s m fr t) true := by
        intro q2
        induction q2 with
        | zero =>
          intro j c h1 h3 hc
          refine Ev.step (fun k => l18regular.l1.eq_2 ..) ?_
          have g := fin j c h1 (by omega) (by omega) hc
          rw [hw.out]
          by_cases h4 : j < i + P
          · refine Ev.pos (by omega) ?_
            rw [decide_eq_false (show ¬ (j : Int) < (X.size : Int) by omega)]
            exact g
          · exact Ev.neg (by omega) g
        | succ q2 ih2 =>
          intro j c h1 h3 hc
          have hjn : Sd (wrap64 ((j : Int) + 1) = ((j + 1 : Nat) : Int)) := ⟨by rw [ConfLib.wrap_small (by omega) (by omega)]; omega⟩
          have hcn : Sd (wrap64 (c + 1) = c + 1) := ⟨ConfLib.wrap_small (by rw [hc]; split <;> omega) (by rw [hc]; split <;> omega)⟩
          have e : bt X (j : Int) = 49 ↔ j = w := (hb j (by omega) (by omega)).trans (hwin j h1 (by omega))
          refine Ev.step (fun k => l18regular.l1.eq_2 ..) ?_
          rw [hw.out]
          refine Ev.pos (by omega) ?_
          rw [decide_eq_true (show (j : Int) < (X.size : Int) by omega)]
          refine Ev.step (fun k => l18regular.j3.eq_2 ..) (Ev.pos rfl (Ev.pos (by omega) (Ev.pos (by omega) ?_)))
          rw [hjn.out, hcn.out]
          by_cases h9 : j = w
          · refine Ev.pos (e.2 h9) (ih2 (j + 1) (c + 1) (by omega) (by omega) ?_)
            rw [hc, if_neg (by omega), if_pos (by omega)]
            rfl
          · refine Ev.neg (fun h => h9 (e.1 h)) (ih2 (j + 1) c (by omega) (by omega) ?_)
            rw [hc]
            by_cases h8 : w < j
            · rw [if_pos h8, if_pos (by omega)]
            · rw [if_neg h8, if_neg (by omega)]
      have start : Ev (fun k => l18regular.j1 k X (i : Int) false n f d (P : Int) r dr o s m fr t) true :=
        Ev.step (fun k => l18regular.j1.eq_2 ..) (Ev.neg Bool.false_ne_true (count (min (i + P) X.size - i) i 0 (by omega) (by omega) (by rw [if_neg (by omega)])))
      refine Ev.step (fun k => l18regular.l0.eq_2 ..) (Ev.pos (by omega) ?_)
      rw [hw.out]
      by_cases hz : i + P < X.size
      · refine Ev.pos (by omega) (Ev.pos (by omega) (Ev.pos (by omega) ?_))
        have h1 := hb i (by omega) hlt
        have h3 := hb (i + P) (by omega) hz
        have h4 : (i + P - L) % P = (i - L) % P := by rw [show i + P - L = i - L + P by omega, Nat.add_mod_right]
        rw [h4] at h3
        have h5 := h2 i hlt
        have h6 := h2 (i + P) hz
        have e : bt X (i : Int) = bt X ((i + P : Nat) : Int) := by
          rcases h5 with h5 | h5
          · rcases h6 with h6 | h6
            · rw [h5, h6]
            · rw [h1.2 (h3.1 h6)] at h5
              exact absurd h5 (by decide)
          · rw [h5, h3.2 (h1.1 h5)]
        rw [show (bt X (i : Int) != bt X ((i + P : Nat) : Int)) = false from bne_eq_false_iff_eq.2 e]
        exact start
      · exact Ev.neg (by omega) start
  exact Ev.congr (fun k => l18regular.f.eq_1 ..) (key X.size i0 (Nat.le_refl _) (by omega))
theorem beat_of (hp : plain n f d p r dr o s m fr t = 0) (e a : Nat → Int) (g : Nat → Int) (ha : ∀ u, a (u + 1) = (nextV n f d p r dr o s m fr t (a u) (g u) (e u == 1)).1) (he : ∀ u, e (u + (ConfLib.length n f d p r dr o s m fr t).toNat) = bitB n f d p r dr o s m fr t (a (u + 1))) :
    BeatMath.Beat (ConfLib.length n f d p r dr o s m fr t).toNat p.toNat (fun u => e u == 1) (fun u => (a (u + 1)).toNat) := by
  have hf := plain_facts hp
  have hm := mul_d (f := f) (d := d) (by omega) (by omega)
  have h3 := len_pos n f d p r dr o s m fr t hp
  have hl : ConfLib.length n f d p r dr o s m fr t = 3 * (f + 1) * d := by unfold ConfLib.length; rw [if_pos hp]
  have hr : ∀ u, 0 ≤ a (u + 1) ∧ a (u + 1) ≤ p := by
    intro u
    rw [ha]
    unfold nextV
    rw [if_pos hp]
    split
    · split
      · exact ⟨Int.le_refl _, by show (0 : Int) ≤ p; omega⟩
      · exact ⟨Int.le_refl _, by show (0 : Int) ≤ p; omega⟩
    · split <;> (show 0 ≤ sat (a u) p ∧ sat (a u) p ≤ p; unfold sat; repeat' split; all_goals omega)
  refine ⟨by omega, by omega, fun u => by have := hr u; omega, ?_, ?_, ?_⟩
  · intro u hu
    show (a (u + 1)).toNat = 0
    rw [ha, show (e u == 1) = true from hu]
    unfold nextV
    rw [if_pos hp, if_pos rfl]
    split <;> rfl
  · intro u hu
    have := hr u
    have h : a (u + 1 + 1) = sat (a (u + 1)) p := by
      rw [ha, show (e (u + 1) == 1) = false from hu]
      unfold nextV
      rw [if_pos hp, if_neg Bool.false_ne_true]
      split <;> rfl
    show (a (u + 1 + 1)).toNat = _
    rw [h]
    unfold sat
    rw [if_neg (by omega)]
    show _ = min ((a (u + 1)).toNat + 1) p.toNat
    split <;> omega
  · intro u
    have := hr u
    show (e (u + _) == 1) = true ↔ _
    rw [he, beq_iff_eq]
    unfold bitB
    rw [if_pos hp]
    split <;> omega
end
end Go.Proofs.Ythblnnboeikgcaa.BeatLib
end
section
set_option linter.unusedVariables false
set_option linter.unusedSimpArgs false
set_option linter.unusedSectionVars false
namespace Go.Proofs.Ythblnnboeikgcaa.PipeLib
open Go.RowKit Go.Proofs.Ythblnnboeikgcaa.B Go.Proofs.YthblnnboeikgcaaW.PrintWords Go.Proofs.YthblnnboeikgcaaW.PrintMore Go.Proofs.Ythblnnboeikgcaa.ConfLib Go.Proofs.Ythblnnboeikgcaa.TallyLib Go.Proofs.Ythblnnboeikgcaa.KingLib Go.Proofs.Ythblnnboeikgcaa.VecLib
theorem nums_bt {xs : List Int} {i : Nat} (hi : i < xs.length) (h0 : 0 ≤ xs.getD i 0) (h1 : xs.getD i 0 ≤ 255) : bt (strOfNums xs) (i : Int) = xs.getD i 0 := by
  have e : xs.getD i 0 = xs[i] := by simp [List.getD_eq_getElem?_getD, hi]
  have hs : (strOfNums xs).size = xs.length := by rw [Bytes.size_list]; simp [strOfNums]
  rw [Bytes.bt_nat _ _ (by rw [hs]; exact hi)]
  have : (strOfNums xs).data.toList = xs.map (fun z => UInt8.ofNat z.toNat) := by simp [strOfNums]
  simp only [this, List.getElem_map]
  rw [e] at h0 h1 ⊢
  rw [UInt8.toNat_ofNat']
  omega
section
variable (n f d p r dr o s m fr : Int) (t : List Int)
theorem well_self {a : ByteArray} (h : (a.size : Int) = ConfLib.length n f d p r dr o s m fr t) : well n f d p r dr o s m fr t a = a := by unfold well; rw [if_pos h]
theorem move_size (hp : plain n f d p r dr o s m fr t = 0) (VS : List ByteArray) (a : ByteArray) : ((moveV n f d p r dr o s m fr t VS a).1.size : Int) = ConfLib.length n f d p r dr o s m fr t := by
  have hw := well_size n f d p r dr o s m fr t a
  unfold moveV
  rw [if_pos hp]
  have hlen := all_len n f d p r dr o s m fr t VS (well n f d p r dr o s m fr t a)
  have : (strOfNums ((pipe_Move.all n f d p r dr o s m fr t VS (well n f d p r dr o s m fr t a)).take (well n f d p r dr o s m fr t a).size)).size = (well n f d p r dr o s m fr t a).size := by
    rw [Bytes.size_list]
    simp [strOfNums]
    omega
  rw [← hw]
  exact congrArg _ this
theorem move_take (hp : plain n f d p r dr o s m fr t = 0) (VS : List ByteArray) (a : ByteArray) (ha : (a.size : Int) = ConfLib.length n f d p r dr o s m fr t) (i : Nat) (hi : i < a.size) :
    bt (moveV n f d p r dr o s m fr t VS a).1 (i : Int) = (pipe_Move.all n f d p r dr o s m fr t VS a).getD i 0 := by
  unfold moveV
  rw [if_pos hp, well_self n f d p r dr o s m fr t ha]
  have hlen := all_len n f d p r dr o s m fr t VS a
  have hb := all_bytes n f d p r dr o s m fr t VS a i
  have e : ((pipe_Move.all n f d p r dr o s m fr t VS a).take a.size).getD i 0 = (pipe_Move.all n f d p r dr o s m fr t VS a).getD i 0 := by
    simp [List.getD_eq_getElem?_getD, List.getElem?_take, hi]
  have := nums_bt (xs := (pipe_Move.all n f d p r dr o s m fr t VS a).take a.size) (i := i) (by rw [List.length_take]; omega) (by rw [e]; exact hb.1) (by rw [e]; exact hb.2)
  rw [e] at this
  exact this
theorem move_bt (hp : plain n f d p r dr o s m fr t = 0) (VS : List ByteArray) (a : ByteArray) (ha : (a.size : Int) = ConfLib.length n f d p r dr o s m fr t) (i : Nat) (hi : i + 1 < a.size) :
    bt (moveV n f d p r dr o s m fr t VS a).1 ((i + 1 : Nat) : Int) = ageV n f d p r dr o s m fr t VS (i + 1) (bt a (i : Int)) := by
  rw [move_take n f d p r dr o s m fr t hp VS a ha (i + 1) hi]
  exact all_get n f d p r dr o s m fr t hp VS a ha i (by omega)
theorem move_end (hp : plain n f d p r dr o s m fr t = 0) (VS : List ByteArray) (a : ByteArray) (ha : (a.size : Int) = ConfLib.length n f d p r dr o s m fr t) (i : Nat) (hi : i + 1 = a.size) :
    (moveV n f d p r dr o s m fr t VS a).2 = if val (ageV n f d p r dr o s m fr t VS (i + 1) (bt a (i : Int))) = 1 then 1 else 0 := by
  unfold moveV lastV
  rw [if_pos hp, well_self n f d p r dr o s m fr t ha, ← all_get n f d p r dr o s m fr t hp VS a ha i (by omega), hi]
end
end Go.Proofs.Ythblnnboeikgcaa.PipeLib
end
