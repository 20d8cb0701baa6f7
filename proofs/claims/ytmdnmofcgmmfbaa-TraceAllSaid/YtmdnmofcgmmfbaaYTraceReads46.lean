import Derived.Test.YtmdnmofcgmmfbaaYTraceReads45
import Derived.Test.YtmdnmofcgmmfbaaYTraceReads42
set_option linter.unusedVariables false
set_option linter.unusedSimpArgs false
namespace Go.Proofs.Ytmdnmofcgmmfbaa.traceAll
open Go.RowKit Go.Proofs.Ytmdnmofcgmmfbaa.T Go.Proofs.YtmdnmofcgmmfbaaW.PrintWords Go.Proofs.Ytmdnmofcgmmfbaa.TraceLib Go.Proofs.Ytmdnmofcgmmfbaa.EvL
theorem known : Ev (fun k => l36known.f k) true := Ev.of l36known.mono (show l36known.f 1000 = some true by decide +kernel)
theorem last : Ev (fun k => (l36known.f k).bind fun t => some t) true := Ev.bind known (Ev.val rfl)
theorem pure : Pure := by
  intro l node _ _
  refine Ev.rounds (r := true) ?_
  refine Ev.congr (fun k => l36TraceAll.f.eq_1 ..) ?_
  obtain ⟨b, hb, hf⟩ := few_ev l
  refine Ev.bind hb ?_
  by_cases h : b = true
  case neg => exact Ev.neg h last
  have hF := hf h
  have hl := hF.1
  have hp : trace_Pulses.f l node = some (pulses l node l.length) := if_pos (by omega)
  have hp1 : (pulses l node l.length).length ≤ l.length := picks_len (fun r => r.f0) l node l.length
  have hlen := cl_len l node l.length (pulses l node l.length)
  have hm := cl_mem hF node l.length (Nat.le_refl _) (pulses l node l.length) (fun p hp => by obtain ⟨x, rfl, hx⟩ := picks_mem hp; omega)
  have hf0 := cl_f0 l node l.length (pulses l node l.length)
  have hlt := picks_lt (fun r => r.f0) l node l.length
  have hmem : ∀ p ∈ pulses l node l.length, 0 ≤ p ∧ p.toNat ≤ l.length := fun p hp => by obtain ⟨x, rfl, hx⟩ := picks_mem hp; omega
  have hflat : ∀ p ps, pulses l node l.length = p :: ps → (cl l node (pulses l node l.length) l.length).flatMap (fun z => z.f4) = trace_Got.got l node p.toNat (l.length - p.toNat) := by
    intro p ps e
    have hm2 := hmem
    have hl2 : (pulses l node l.length).Pairwise (· < ·) := hlt
    rw [e] at hm2 hl2 ⊢
    exact cl_flat l node l.length p ps hl2 hm2
  have hgs := fun p => got_small hF node p (l.length : Int)
  refine Ev.pos h (Ev.some_ hp (Ev.some_ (cyc_at hF node) (Ev.pos (by rw [hlen]) ?_)))
  generalize pulses l node l.length = P at hp1 hlen hm hf0 hflat hmem ⊢
  generalize cl l node P l.length = C at hlen hm hf0 hflat ⊢
  have hPC : ∀ i (h1 : i < C.length) (h2 : i < P.length), C[i].f0 = P[i] := by
    intro i h1 h2
    have : (C.map (fun z => z.f0))[i]'(by simpa using h1) = P[i] := by simp only [hf0]
    simpa using this
  have loop : ∀ (q i : Nat) (acc : List S53), i + q = C.length → acc.length ≤ i * 8000 → acc = (C.take i).flatMap (fun z => z.f4) → Ev (fun k => l36TraceAll.l0 k l node P C acc (i : Int)) true := by
    intro q
    induction q with
    | zero =>
      intro i acc hi ha he
      refine Ev.step (fun k => l36TraceAll.l0.eq_2 ..) (Ev.neg (by omega) ?_)
      rw [List.take_of_length_le (by omega)] at he
      rcases P with _ | ⟨p, ps⟩
      · have hC : C = [] := List.eq_nil_of_length_eq_zero (by simpa using hlen)
        rw [hC] at he
        refine Ev.pos rfl (Ev.pos ?_ last)
        rw [he]
        rfl
      · have hg := hflat p ps rfl
        have hp0 := hmem p (by simp)
        have e2 : trace_Got.got l node p.toNat ((min (l.length : Int) (l.length : Int)).toNat - p.toNat) = trace_Got.got l node p.toNat (l.length - p.toNat) := by
          congr 1
          omega
        have g1 := got_at hF node p (l.length : Int)
        have g2 := hgs p
        rw [e2] at g1 g2
        rw [← hg, ← he] at g1 g2
        refine Ev.neg (by simp only [List.length_cons]; omega) (Ev.pos (by simp only [List.length_cons]; omega) ?_)
        show Ev (fun n => (trace_Got.f l node p (l.length : Int)).bind _) true
        exact Ev.some_ g1 (Ev.bind (delivers_same _ (by omega)) (Ev.pos rfl last))
    | succ q ih =>
      intro i acc hi ha he
      have hilt : i < C.length := by omega
      have hipl : i < P.length := by omega
      have e1 : rd_T40 C (i : Int) = C[i] := by simp [rd_T40, List.getD_eq_getElem?_getD, List.getElem?_eq_getElem hilt]
      have hz := hm C[i] (List.getElem_mem _)
      refine Ev.step (fun k => l36TraceAll.l0.eq_2 ..) ?_
      rw [e1, rd_at hipl, EvL.wrap_small (by omega) (by omega)]
      refine Ev.pos (by omega) (Ev.pos (by omega) (Ev.pos (by omega) (Ev.pos (hPC i hilt hipl) (Ev.pos (by omega) ?_))))
      refine ih (i + 1) _ (by omega) (by rw [List.length_append]; omega) ?_
      rw [List.take_succ_eq_append_getElem hilt, List.flatMap_append, ← he]
      simp
  exact loop C.length 0 [] (by omega) (by simp) (by simp)
end Go.Proofs.Ytmdnmofcgmmfbaa.traceAll
