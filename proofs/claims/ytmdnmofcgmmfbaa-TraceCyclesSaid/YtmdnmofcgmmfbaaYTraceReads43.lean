import Derived.Test.YtmdnmofcgmmfbaaYTraceReads41
import Derived.Test.YtmdnmofcgmmfbaaYTraceReads42
set_option linter.unusedVariables false
set_option linter.unusedSimpArgs false
namespace Go.Proofs.Ytmdnmofcgmmfbaa.traceCycles
open Go.RowKit Go.Proofs.Ytmdnmofcgmmfbaa.T Go.Proofs.YtmdnmofcgmmfbaaW.PrintWords Go.Proofs.Ytmdnmofcgmmfbaa.TraceLib Go.Proofs.Ytmdnmofcgmmfbaa.EvL
theorem known : Ev (fun k => l36known.f k) true := Ev.of l36known.mono (show l36known.f 1000 = some true by decide +kernel)
theorem last : Ev (fun k => (l36known.f k).bind fun t => some t) true := Ev.bind known (Ev.val rfl)
theorem pure : Pure := by
  intro l node _ _
  refine Ev.rounds (r := true) ?_
  refine Ev.congr (fun k => l36TraceCycles.f.eq_1 ..) ?_
  obtain ⟨b, hb, hf⟩ := few_ev l
  refine Ev.bind hb ?_
  by_cases h : b = true
  · have hF := hf h
    have hl := hF.1
    have hr := ref_cycles hF node
    rw [cyc_eq] at hr
    have hp1 := picks_len (fun r => r.f0) l node l.length
    have hlen := cl_len l node l.length (pulses l node l.length)
    have hm := cl_mem hF node l.length (Nat.le_refl _) (pulses l node l.length) (fun p hp => by obtain ⟨x, rfl, hx⟩ := picks_mem hp; omega)
    refine Ev.pos h (Ev.some_ (cyc_at hF node) (Ev.bind hr (Ev.bind (cycles_same _ ?_ (fun z hz => by have := hm z hz; omega)) (Ev.pos rfl last))))
    rw [hlen]
    show (trace_when.picks (fun r => r.f0) l node l.length).length ≤ _
    omega
  · exact Ev.neg h last
end Go.Proofs.Ytmdnmofcgmmfbaa.traceCycles
