import Derived.Test.YtfannnojhkkaiaaYVecAgrees45
import Derived.Test.YtfannnojhkkaiaaYVecAgrees53
import Derived.Test.YtfannnojhkkaiaaYVecAgrees34
import Derived.Test.YtfannnojhkkaiaaYVecAgrees42
set_option linter.unusedVariables false
set_option linter.unusedSimpArgs false
namespace Go.Proofs.Ytfannnojhkkaiaa.vecAgrees
open Go.RowKit Go.Proofs.Ytfannnojhkkaiaa.V Go.Proofs.YtfannnojhkkaiaaW.PrintWords Go.Proofs.Ytfannnojhkkaiaa.ConfLib Go.Proofs.Ytfannnojhkkaiaa.KingLib Go.Proofs.Ytfannnojhkkaiaa.VecLib
theorem known : Ev (fun k => bellwetherlaw16_known.f k) true := Ev.of bellwetherlaw16_known.mono (show bellwetherlaw16_known.f 1000 = some true by decide +kernel)
theorem last : Ev (fun k => (bellwetherlaw16_known.f k).bind fun t => some t) true := Ev.bind known (Ev.val rfl)
abbrev rdS := rdOf ByteArray.empty
theorem rdS_get (l : List ByteArray) (i : Nat) : rdS l (i : Int) = l.getD i ByteArray.empty := by simp [rdS, rdOf]
theorem rdS_range (g : Nat → ByteArray) {m i : Nat} (hi : i < m) : rdS ((List.range m).map g) (i : Int) = g i := by
  rw [rdS_get]
  exact KW.getD_range g ByteArray.empty hi
section
variable (n f d p r dr o s m fr : Int) (t F : List Int) (L : List ByteArray)
def tell (x : Int) (B : List ByteArray) (i : Int) (k : Nat) : ByteArray := if F.contains (k : Int) then rdS L (((x * n + (k : Int)) * n + i) % (L.length : Int)) else txt (vec_Values.digits (rdS B (k : Int)))
def tells (x : Int) (B : List ByteArray) (i : Int) : List ByteArray := (List.range n.toNat).map (tell n F L x B i)
def next (x : Int) (B : List ByteArray) (i : Nat) : ByteArray := txt (stepD n f d p r dr o s m fr t x (rdS B (i : Int)) (rdS (tells n F L x B (i : Int)) (x / 3)) (tells n F L x B (i : Int)))
def exch (x : Int) (B : List ByteArray) : List ByteArray := (List.range n.toNat).map (next n f d p r dr o s m fr t F L x B)
def first (A : List ByteArray) : List ByteArray := (List.range n.toNat).map (fun (i : Nat) => txt (vec_Of.digits (rdS A (i : Int))))
def at_ (A : List ByteArray) : Nat → List ByteArray
  | 0 => first n A
  | x + 1 => exch n f d p r dr o s m fr t F L (x : Int) (at_ A x)
theorem tells_len (x : Int) (B : List ByteArray) (i : Int) : (tells n F L x B i).length = n.toNat := by simp [tells]
theorem at_len (A : List ByteArray) (x : Nat) : (at_ n f d p r dr o s m fr t F L A x).length = n.toNat := by
  cases x <;> simp [at_, first, exch]
theorem at_size (A : List ByteArray) {w : Nat} (hA : ∀ i, i < n.toNat → (rdS A (i : Int)).size = w) : ∀ (x i : Nat), i < n.toNat → (rdS (at_ n f d p r dr o s m fr t F L A x) (i : Int)).size = w
  | 0, i, hi => by
    show (rdS (first n A) (i : Int)).size = w
    unfold first
    rw [rdS_range _ hi, txt_size, of_len, hA i hi]
  | x + 1, i, hi => by
    show (rdS (exch n f d p r dr o s m fr t F L (x : Int) (at_ n f d p r dr o s m fr t F L A x)) (i : Int)).size = w
    unfold exch
    rw [rdS_range _ hi]
    unfold next
    rw [txt_size, stepD_len]
    exact at_size A hA x i hi
theorem runs (hp : plain n f d p r dr o s m fr t = 0) (A : List ByteArray) {w : Nat} (hA : ∀ i, i < n.toNat → (rdS A (i : Int)).size = w) :
    VRun n f d p r dr o s m fr t F w (fun x i => rdS (at_ n f d p r dr o s m fr t F L A x) (i : Int)) (fun x i => tells n F L (x : Int) (at_ n f d p r dr o s m fr t F L A x) (i : Int)) := by
  have hb := plain_facts hp
  refine ⟨fun x i _ hi _ => at_size n f d p r dr o s m fr t F L A hA x i hi, fun x i _ _ _ => tells_len .., fun x i k hx hi hh hk hhk => ?_, fun x i hx hi hh => ?_⟩
  · show (tells n F L (x : Int) (at_ n f d p r dr o s m fr t F L A x) (i : Int)).getD k ByteArray.empty = _
    unfold tells
    rw [KW.getD_range _ _ hk]
    unfold tell
    have : F.contains (k : Int) = false := by
      unfold hon at hhk
      simpa using hhk
    rw [this]
    rfl
  · show rdS (exch n f d p r dr o s m fr t F L (x : Int) (at_ n f d p r dr o s m fr t F L A x)) (i : Int) = _
    unfold exch
    rw [rdS_range _ hi]
    unfold next
    rw [show (x : Int) / 3 = ((x / 3 : Nat) : Int) by omega, rdS_get (tells n F L (x : Int) _ (i : Int))]
end
section
variable (n f d p r dr o s m fr : Int) (t F : List Int) (A L : List ByteArray)
theorem one_ev (hp : plain n f d p r dr o s m fr t = 0) (hF : F.length ≤ 1000) (hlA : A.length = n.toNat) (hf : KingMath.bad n.toNat (hon F) ≤ f.toNat) {w : Nat} (hw : w ≤ 30) (hA : ∀ i, i < n.toNat → (rdS A (i : Int)).size = w) :
    Ev (fun k => bellwetherlaw16_one.f k n f d p r dr o s m fr t A F (at_ n f d p r dr o s m fr t F L A (3 * (f.toNat + 1)))) true := by
  have hb := plain_facts hp
  have R := runs n f d p r dr o s m fr t F L hp A hA
  have hl := at_len n f d p r dr o s m fr t F L A (3 * (f.toNat + 1))
  have hsz : ∀ i, i < n.toNat → (rdS (at_ n f d p r dr o s m fr t F L A (3 * (f.toNat + 1))) (i : Int)).size = w := fun i hi => at_size n f d p r dr o s m fr t F L A hA (3 * (f.toNat + 1)) i hi
  have hag : ∀ j, j < w → ∃ v : Int, (v = 0 ∨ v = 1) ∧ ∀ i, i < n.toNat → hon F i = true → bt (rdS (at_ n f d p r dr o s m fr t F L A (3 * (f.toNat + 1))) (i : Int)) (j : Int) = 48 + v := fun j hj => vec_agrees hp hf R hj
  have hke : ∀ j, j < w → ∀ v : Int, (v = 0 ∨ v = 1) → (∀ i, i < n.toNat → hon F i = true → bit (bt (rdS A (i : Int)) (j : Int)) = v) → ∀ i, i < n.toNat → hon F i = true → bt (rdS (at_ n f d p r dr o s m fr t F L A (3 * (f.toNat + 1))) (i : Int)) (j : Int) = 48 + v := by
    intro j hj v hv h0
    refine vec_keeps hp hf R hj hv (fun i hi hh => ?_)
    show val (bt (rdS (first n A) (i : Int)) (j : Int)) = v
    unfold first
    have h1 := vec_Of_1.range (bt (rdS A (i : Int)) (j : Int))
    have hg := of_get (rdS A (i : Int)) (j := j) (by rw [hA i hi]; exact hj)
    have h2 : 0 ≤ bit (bt (rdS A (i : Int)) (j : Int)) ∧ bit (bt (rdS A (i : Int)) (j : Int)) ≤ 2 := ⟨h1.1, by show vec_Of_1.digit _ ≤ 2; omega⟩
    rw [rdS_range _ hi, txt_bt _ (by rw [of_len, hA i hi]; exact hj) (by rw [hg]; exact h2.1) (by rw [hg]; omega), hg, h0 i hi hh]
    show vec_Values_1.digit _ = v
    unfold vec_Values_1.digit
    rw [if_neg (by omega)]
    omega
  generalize at_ n f d p r dr o s m fr t F L A (3 * (f.toNat + 1)) = N at hl hsz hag hke ⊢
  obtain ⟨z, hz, hzh⟩ := KingMath.some_king hf (by omega)
  have hsame : ∀ i j, i < n.toNat → j < n.toNat → hon F i = true → hon F j = true → rdS N (i : Int) = rdS N (j : Int) := by
    intro i j hi hj hhi hhj
    refine ext_bt (by rw [hsz i hi, hsz j hj]) (fun q hq => ?_)
    rw [hsz i hi] at hq
    obtain ⟨v, _, h⟩ := hag q hq
    rw [h i hi hhi, h j hj hhj]
  have hcon : ∀ i : Nat, F.contains (i : Int) = false → hon F i = true := fun i h => by unfold hon; rw [h]; rfl
  have h0 : rdS A 0 = rdS A ((0 : Nat) : Int) := rfl
  have hA0 : (rdS A 0).size = w := by rw [h0]; exact hA 0 (by omega)
  /- The second half: each place. -/
  have half : ∀ g : Nat, g < n.toNat → hon F g = true → Ev (fun k => bellwetherlaw16_one.l1 k A F N (g : Int) 0 n f d p r dr o s m fr t) true := by
    intro g hg hgh
    have outer : ∀ (q j : Nat), j + q = w → Ev (fun k => bellwetherlaw16_one.l1 k A F N (g : Int) (j : Int) n f d p r dr o s m fr t) true := by
      intro q
      induction q with
      | zero =>
        intro j hj
        refine Ev.step (fun k => bellwetherlaw16_one.l1.eq_2 ..) (Ev.pos (by omega) (Ev.neg ?_ (Ev.val rfl)))
        show ¬ (j : Int) < ((rdS A 0).size : Int)
        omega
      | succ q ih =>
        intro j hj
        have hjw : j < w := by omega
        have go := ih (j + 1) (by omega)
        rw [← succ_w (by omega)] at go
        refine Ev.step (fun k => bellwetherlaw16_one.l1.eq_2 ..) (Ev.pos (by omega) (Ev.pos (show (j : Int) < ((rdS A 0).size : Int) by omega) ?_))
        obtain ⟨v, hv, hall⟩ := hag j hjw
        have hgot := hall g hg hgh
        have inner : ∀ (q2 i : Nat) (same : Bool), i + q2 = n.toNat → (same = true → ∀ e, e < i → hon F e = true → ((bt (rdS A (e : Int)) (j : Int) == 49) == (bt (rdS A (g : Int)) (j : Int) == 49)) = true) → Ev (fun k => bellwetherlaw16_one.l2 k A F N (g : Int) (j : Int) same (i : Int) n f d p r dr o s m fr t) true := by
          intro q2
          induction q2 with
          | zero =>
            intro i same hi hsm
            refine Ev.step (fun k => bellwetherlaw16_one.l2.eq_2 ..) (Ev.neg (by omega) (Ev.pos (by omega) (Ev.pos (by omega) (Ev.pos (by omega) (Ev.pos (show (j : Int) < ((rdS N (g : Int)).size : Int) by rw [hsz g hg]; omega) ?_)))))
            have fin : same = true → ((bt (rdS N (g : Int)) (j : Int) == 49) != (bt (rdS A (g : Int)) (j : Int) == 49)) = false := by
              intro hs
              have hall2 := hsm hs
              have hk := hke j hjw (bit (bt (rdS A (g : Int)) (j : Int))) (by have := vec_Of_1.range (bt (rdS A (g : Int)) (j : Int)); show vec_Of_1.digit _ = 0 ∨ vec_Of_1.digit _ = 1; omega) (fun e he hhe => by
                have := hall2 e (by omega) hhe
                have h3 : (bt (rdS A (e : Int)) (j : Int) == 49) = (bt (rdS A (g : Int)) (j : Int) == 49) := by simpa using this
                show (if _ then _ else _) = (if _ then _ else _)
                have h4 : (bt (rdS A (e : Int)) (j : Int) = 49) ↔ (bt (rdS A (g : Int)) (j : Int) = 49) := by
                  rw [← beq_iff_eq, h3, beq_iff_eq]
                simp only [h4]) g hg hgh
              rw [hk]
              show (((48 + (if bt (rdS A (g : Int)) (j : Int) = 49 then 1 else 0)) == 49) != (bt (rdS A (g : Int)) (j : Int) == 49)) = false
              by_cases h5 : bt (rdS A (g : Int)) (j : Int) = 49
              · rw [h5]; decide
              · rw [if_neg h5, show (bt (rdS A (g : Int)) (j : Int) == 49) = false from by simpa using h5]; decide
            have tail : ∀ g2 : Nat → Option Bool, Ev g2 true → Ev (fun k => if same = true then (if (g : Int) < (A.length : Int) then (if (j : Int) < ((rdS A (g : Int)).size : Int) then (if ((bt (rdS N (g : Int)) (j : Int) == 49) != (bt (rdS A (g : Int)) (j : Int) == 49)) = true then some false else g2 k) else none) else none) else g2 k) true := by
              intro g2 h2
              by_cases hs : same = true
              · refine Ev.pos hs (Ev.pos (by omega) (Ev.pos (by rw [hA g hg]; omega) (Ev.neg ?_ h2)))
                rw [fin hs]
                decide
              · exact Ev.neg hs h2
            rcases hv with rfl | rfl
            · exact Ev.pos (show bt (rdS N (g : Int)) (j : Int) = 48 by rw [hgot]; rfl) (tail _ go)
            · exact Ev.neg (show ¬ bt (rdS N (g : Int)) (j : Int) = 48 by rw [hgot]; decide) (Ev.pos (show bt (rdS N (g : Int)) (j : Int) = 49 by rw [hgot]; rfl) (tail _ go))
          | succ q2 ih2 =>
            intro i same hi hsm
            refine Ev.step (fun k => bellwetherlaw16_one.l2.eq_2 ..) (Ev.pos (by omega) ?_)
            by_cases hs : same = true
            · refine Ev.pos hs (Ev.bind (in_ev F (by omega) (i : Int)) ?_)
              rw [succ_w (by omega)]
              by_cases hc : F.contains (i : Int) = true
              · refine Ev.pos hc (ih2 (i + 1) true (by omega) (fun _ e he hhe => ?_))
                by_cases hei : e = i
                · subst hei
                  unfold hon at hhe
                  rw [hc] at hhe
                  cases hhe
                · exact hsm hs e (by omega) hhe
              · refine Ev.neg hc (Ev.pos (by omega) (Ev.pos (by omega) (Ev.pos (by omega) (Ev.pos (show (j : Int) < ((rdS A (i : Int)).size : Int) by rw [hA i (by omega)]; omega) (Ev.pos (by omega) (Ev.pos (by omega) (Ev.pos (show (j : Int) < ((rdS A (g : Int)).size : Int) by rw [hA g hg]; omega) ?_)))))))
                refine ih2 (i + 1) _ (by omega) (fun hq e he hhe => ?_)
                by_cases hei : e = i
                · subst hei
                  exact hq
                · exact hsm hs e (by omega) hhe
            · refine Ev.neg hs ?_
              rw [succ_w (by omega)]
              exact ih2 (i + 1) false (by omega) (fun hq => by cases hq)
        exact inner n.toNat 0 true (by omega) (fun _ e he => by omega)
    exact outer w 0 (by omega)
  /- The first half: each node. -/
  have nodes : ∀ (q i : Nat) (g : Int), i + q = n.toNat → (g = -1 ∧ i ≤ z ∨ ∃ e : Nat, g = (e : Int) ∧ e < n.toNat ∧ hon F e = true) → Ev (fun k => bellwetherlaw16_one.l0 k A F N g (i : Int) n f d p r dr o s m fr t) true := by
    intro q
    induction q with
    | zero =>
      intro i g hi hg
      refine Ev.step (fun k => bellwetherlaw16_one.l0.eq_2 ..) (Ev.neg (by omega) ?_)
      rcases hg with ⟨_, h⟩ | ⟨e, rfl, he, hhe⟩
      · omega
      · exact half e he hhe
    | succ q ih =>
      intro i g hi hg
      refine Ev.step (fun k => bellwetherlaw16_one.l0.eq_2 ..) (Ev.pos (by omega) (Ev.bind (in_ev F (by omega) (i : Int)) ?_))
      by_cases hc : F.contains (i : Int) = true
      · refine Ev.pos hc ?_
        rw [succ_w (by omega)]
        have hiz : i ≠ z := fun e => by
          subst e
          unfold hon at hzh
          rw [hc] at hzh
          cases hzh
        refine ih (i + 1) g (by omega) ?_
        rcases hg with ⟨h1, h2⟩ | h
        · exact .inl ⟨h1, by omega⟩
        · exact .inr h
      · have hh := hcon i (by simpa using hc)
        have body : ∀ e : Nat, e < n.toNat → hon F e = true → Ev (fun k => bellwetherlaw16_one.j1 k A F N (e : Int) (i : Int) n f d p r dr o s m fr t) true := by
          intro e he hhe
          have go := ih (i + 1) (e : Int) (by omega) (.inr ⟨e, rfl, he, hhe⟩)
          rw [← succ_w (by omega)] at go
          refine Ev.step (fun k => bellwetherlaw16_one.j1.eq_2 ..) (Ev.pos (by omega) (Ev.pos (by omega) (Ev.pos (by omega) (Ev.pos (show ((rdS N (i : Int)).size : Int) = ((rdS A 0).size : Int) by rw [hsz i (by omega), hA0]) (Ev.some_ (values_at _ (show (rdS N (i : Int)).size ≤ _ by rw [hsz i (by omega)]; omega)) (Ev.pos (by omega) (Ev.pos (by omega) (Ev.some_ (values_at _ (show (rdS N (e : Int)).size ≤ _ by rw [hsz e he]; omega)) (Ev.pos ?_ go)))))))))
          show (txt (vec_Values.digits (rdS N (i : Int)))).toList = (txt (vec_Values.digits (rdS N (e : Int)))).toList
          rw [hsame i e (by omega) he hh hhe]
        refine Ev.neg hc ?_
        rcases hg with ⟨rfl, h2⟩ | ⟨e, rfl, he, hhe⟩
        · exact Ev.pos (by decide) (body i (by omega) hh)
        · exact Ev.neg (by omega) (body e he hhe)
  refine Ev.congr (fun k => bellwetherlaw16_one.f.eq_1 ..) ?_
  exact nodes n.toNat 0 (-1) (by omega) (.inl ⟨rfl, by omega⟩)
theorem rounds_ev (hp : plain n f d p r dr o s m fr t = 0) (hF : F.length ≤ 1000) (hlA : A.length = n.toNat) (hf : KingMath.bad n.toNat (hon F) ≤ f.toNat) {w : Nat} (hw : w ≤ 30) (hA : ∀ i, i < n.toNat → (rdS A (i : Int)).size = w) (hL : 0 < L.length ∧ L.length ≤ 400) (q : Nat) :
    ∀ x : Nat, x + q = 3 * (f.toNat + 1) → Ev (fun k => bellwetherlaw16_VecAgrees.l1 k A F L (at_ n f d p r dr o s m fr t F L A x) (x : Int) n f d p r dr o s m fr t) true := by
  have hb := plain_facts hp
  have hr : ConfLib.rounds n f d p r dr o s m fr t = 3 * (f + 1) := by unfold ConfLib.rounds; rw [if_pos hp]
  induction q with
  | zero =>
    intro x hx
    refine Ev.step (fun k => bellwetherlaw16_VecAgrees.l1.eq_2 ..) (Ev.bind (Ev.from 700 (fun k hk => ref_rounds_at n f d p r dr o s m fr t hk)) ?_)
    rw [hr, show x = 3 * (f.toNat + 1) by omega]
    exact Ev.neg (by omega) (Ev.bind (one_ev n f d p r dr o s m fr t F A L hp hF hlA hf hw hA) (Ev.pos rfl last))
  | succ q ih =>
    intro x hx
    have go := ih (x + 1) (by omega)
    refine Ev.step (fun k => bellwetherlaw16_VecAgrees.l1.eq_2 ..) (Ev.bind (Ev.from 700 (fun k hk => ref_rounds_at n f d p r dr o s m fr t hk)) ?_)
    rw [hr]
    refine Ev.pos (by omega) ?_
    have hl := at_len n f d p r dr o s m fr t F L A x
    have hsz : ∀ i, i < n.toNat → (rdS (at_ n f d p r dr o s m fr t F L A x) (i : Int)).size = w := fun i hi => at_size n f d p r dr o s m fr t F L A hA x i hi
    have go2 : Ev (fun k => bellwetherlaw16_VecAgrees.l1 k A F L (exch n f d p r dr o s m fr t F L (x : Int) (at_ n f d p r dr o s m fr t F L A x)) (wrap64 ((x : Int) + 1)) n f d p r dr o s m fr t) true := by
      rw [succ_w (by omega)]
      exact go
    generalize at_ n f d p r dr o s m fr t F L A x = B at hl hsz go2 ⊢
    have he : (exch n f d p r dr o s m fr t F L (x : Int) B).length = n.toNat := by simp [exch]
    have mid : ∀ (q2 i : Nat), i + q2 = n.toNat → Ev (fun k => bellwetherlaw16_VecAgrees.l2 k A F L B (x : Int) ((exch n f d p r dr o s m fr t F L (x : Int) B).take i) (i : Int) n f d p r dr o s m fr t) true := by
      intro q2
      induction q2 with
      | zero =>
        intro i hi
        refine Ev.step (fun k => bellwetherlaw16_VecAgrees.l2.eq_2 ..) (Ev.neg (by omega) ?_)
        rw [List.take_of_length_le (by omega)]
        exact go2
      | succ q2 ih2 =>
        intro i hi
        have hs : ((exch n f d p r dr o s m fr t F L (x : Int) B).take i) ++ [next n f d p r dr o s m fr t F L (x : Int) B i] = (exch n f d p r dr o s m fr t F L (x : Int) B).take (i + 1) := take_map_succ (next n f d p r dr o s m fr t F L (x : Int) B) (by omega)
        have go3 := ih2 (i + 1) (by omega)
        rw [← succ_w (by omega), ← hs] at go3
        refine Ev.step (fun k => bellwetherlaw16_VecAgrees.l2.eq_2 ..) (Ev.pos (by omega) ?_)
        have hT := tells_len n F L (x : Int) B (i : Int)
        have inner : ∀ (q3 j : Nat), j + q3 = n.toNat → Ev (fun k => bellwetherlaw16_VecAgrees.l3 k A F L B (x : Int) ((exch n f d p r dr o s m fr t F L (x : Int) B).take i) (i : Int) ((tells n F L (x : Int) B (i : Int)).take j) (j : Int) n f d p r dr o s m fr t) true := by
          intro q3
          induction q3 with
          | zero =>
            intro j hj
            have hl2 : ((exch n f d p r dr o s m fr t F L (x : Int) B).take i).length < 8796093022208 := Nat.lt_of_le_of_lt (m := 13) (by rw [List.length_take]; omega) (by decide)
            refine Ev.step (fun k => bellwetherlaw16_VecAgrees.l3.eq_2 ..) ?_
            rw [List.take_of_length_le (by omega), Int.tdiv_eq_ediv_of_nonneg (by omega), ConfLib.wrap_small (n := (x : Int) / 3) (by omega) (by omega)]
            refine Ev.neg (by omega) (Ev.pos (by omega) (Ev.pos (by omega) (Ev.pos (by omega) (Ev.pos (by omega) ?_))))
            refine Ev.bind (Ev.from 10 (fun k hk => vstep_at n f d p r dr o s m fr t (x : Int) (rdS B (i : Int)) (rdS (tells n F L (x : Int) B (i : Int)) ((x : Int) / 3)) (tells n F L (x : Int) B (i : Int)) (by rw [hsz i (by omega)]; omega) (by omega) hk)) ?_
            exact Ev.pos hl2 go3
          | succ q3 ih3 =>
            intro j hj
            have hs2 : ((tells n F L (x : Int) B (i : Int)).take j) ++ [tell n F L (x : Int) B (i : Int) j] = (tells n F L (x : Int) B (i : Int)).take (j + 1) := take_map_succ (tell n F L (x : Int) B (i : Int)) (by omega)
            have go4 := ih3 (j + 1) (by omega)
            rw [← succ_w (by omega), ← hs2] at go4
            have hl2 : ((tells n F L (x : Int) B (i : Int)).take j).length < 8796093022208 := Nat.lt_of_le_of_lt (m := 13) (by rw [List.length_take]; omega) (by decide)
            refine Ev.step (fun k => bellwetherlaw16_VecAgrees.l3.eq_2 ..) (Ev.pos (by omega) (Ev.bind (in_ev F (by omega) (j : Int)) ?_))
            by_cases hc : F.contains (j : Int) = true
            · have ht : tell n F L (x : Int) B (i : Int) j = rdS L ((((x : Int) * n + (j : Int)) * n + (i : Int)) % (L.length : Int)) := by unfold tell; rw [if_pos hc]
              rw [ht] at go4
              have w1 : 0 ≤ (x : Int) * n ∧ (x : Int) * n ≤ 60 * 13 := ⟨Int.mul_nonneg (by omega) (by omega), Int.mul_le_mul (by omega) (by omega) (by omega) (by omega)⟩
              have w2 : 0 ≤ ((x : Int) * n + (j : Int)) * n ∧ ((x : Int) * n + (j : Int)) * n ≤ 800 * 13 := ⟨Int.mul_nonneg (by omega) (by omega), Int.mul_le_mul (by omega) (by omega) (by omega) (by omega)⟩
              rw [ConfLib.wrap_small (n := (x : Int) * n) (by omega) (by omega), ConfLib.wrap_small (n := (x : Int) * n + (j : Int)) (by omega) (by omega), ConfLib.wrap_small (n := ((x : Int) * n + (j : Int)) * n) (by omega) (by omega), ConfLib.wrap_small (n := ((x : Int) * n + (j : Int)) * n + (i : Int)) (by omega) (by omega), Int.tmod_eq_emod_of_nonneg (by omega)]
              have g0 : 0 ≤ (((x : Int) * n + (j : Int)) * n + (i : Int)) % (L.length : Int) := Int.emod_nonneg _ (by omega)
              have g1 : (((x : Int) * n + (j : Int)) * n + (i : Int)) % (L.length : Int) < L.length := Int.emod_lt_of_pos _ (by omega)
              exact Ev.pos hc (Ev.neg (by omega) (Ev.pos g0 (Ev.pos g1 (Ev.pos hl2 go4))))
            · have ht : tell n F L (x : Int) B (i : Int) j = txt (vec_Values.digits (rdS B (j : Int))) := by unfold tell; rw [if_neg hc]
              rw [ht] at go4
              exact Ev.neg hc (Ev.pos (by omega) (Ev.pos (by omega) (Ev.some_ (values_at _ (show (rdS B (j : Int)).size ≤ _ by rw [hsz j (by omega)]; omega)) (Ev.pos hl2 go4))))
        exact inner n.toNat 0 (by omega)
    exact mid n.toNat 0 (by omega)
end
theorem pure : Pure := by
  rintro ⟨n, f, d, p, r, dr, o, s, m, fr, t⟩ A F L _ hA0 _ _
  have hAs : ∀ y ∈ A, y.size ≤ 140737488351232 := hA0.2
  refine Ev.rounds (r := true) ?_
  show Ev (fun k => bellwetherlaw16_VecAgrees.f k n f d p r dr o s m fr t A F L) true
  refine Ev.congr (fun k => bellwetherlaw16_VecAgrees.f.eq_1 ..) ?_
  refine Ev.bind (Ev.from 700 (fun k hk => ref_plain_at n f d p r dr o s m fr t hk)) ?_
  have out : Ev (fun k => bellwetherlaw16_VecAgrees.j0 k A F L true n f d p r dr o s m fr t) true := Ev.step (fun k => bellwetherlaw16_VecAgrees.j0.eq_2 ..) (Ev.pos rfl last)
  by_cases hp : plain n f d p r dr o s m fr t = 0
  · have hb := plain_facts hp
    refine Ev.pos hp ?_
    by_cases h1 : (A.length : Int) = n
    · refine Ev.pos h1 ?_
      by_cases h2 : (F.length : Int) > f
      · exact Ev.pos h2 out
      refine Ev.neg h2 ?_
      by_cases h3 : (L.length : Int) = 0
      · exact Ev.pos h3 out
      refine Ev.neg h3 (Ev.step (fun k => bellwetherlaw16_VecAgrees.j0.eq_2 ..) ?_)
      by_cases h4 : (L.length : Int) > 400
      · exact Ev.pos (decide_eq_true h4) last
      refine Ev.neg (by simpa using h4) ?_
      have hbad : KingMath.bad n.toNat (hon F) ≤ f.toNat := by
        have := bad_few n.toNat F
        omega
      have hfl : (first n A).length = n.toNat := by simp [first]
      have fill : ∀ (q i : Nat), i + q = n.toNat → (∀ e, e < i → (rdS A (e : Int)).size = (rdS A 0).size ∧ (rdS A 0).size ≤ 30) → Ev (fun k => bellwetherlaw16_VecAgrees.l0 k A F L ((first n A).take i) (i : Int) n f d p r dr o s m fr t) true := by
        intro q
        induction q with
        | zero =>
          intro i hi hall
          refine Ev.step (fun k => bellwetherlaw16_VecAgrees.l0.eq_2 ..) (Ev.neg (by omega) ?_)
          rw [List.take_of_length_le (by omega)]
          have h30 := (hall 0 (by omega)).2
          exact rounds_ev n f d p r dr o s m fr t F A L hp (by omega) (by omega) hbad h30 (fun e he => (hall e (by omega)).1) (by omega) (3 * (f.toNat + 1)) 0 (by omega)
        | succ q ih =>
          intro i hi hall
          refine Ev.step (fun k => bellwetherlaw16_VecAgrees.l0.eq_2 ..) (Ev.pos (by omega) (Ev.pos (by omega) (Ev.pos (by omega) (Ev.pos (by omega) ?_))))
          by_cases d1 : ((rdS A (i : Int)).size : Int) = ((rdS A 0).size : Int)
          · refine Ev.pos d1 (Ev.step (fun k => bellwetherlaw16_VecAgrees.j2.eq_2 ..) ?_)
            by_cases d2 : ((rdS A 0).size : Int) > 30
            · exact Ev.pos (decide_eq_true d2) last
            have hs : ((first n A).take i) ++ [txt (vec_Of.digits (rdS A (i : Int)))] = (first n A).take (i + 1) := take_map_succ (fun (i : Nat) => txt (vec_Of.digits (rdS A (i : Int)))) (by omega)
            have go := ih (i + 1) (by omega) (fun e he => by
              by_cases hei : e = i
              · subst hei
                exact ⟨by omega, by omega⟩
              · exact hall e (by omega))
            rw [← succ_w (by omega), ← hs] at go
            have hl2 : ((first n A).take i).length < 8796093022208 := Nat.lt_of_le_of_lt (m := 13) (by rw [List.length_take]; omega) (by decide)
            exact Ev.neg (by simpa using d2) (Ev.pos (by omega) (Ev.pos (by omega) (Ev.some_ (of_at _ (show (rdS A (i : Int)).size ≤ _ by omega)) (Ev.pos hl2 go))))
          · exact Ev.neg d1 (Ev.step (fun k => bellwetherlaw16_VecAgrees.j2.eq_2 ..) (Ev.pos rfl last))
      exact fill n.toNat 0 (by omega) (fun e he => by omega)
    · exact Ev.neg h1 out
  · exact Ev.neg hp out
end Go.Proofs.Ytfannnojhkkaiaa.vecAgrees
