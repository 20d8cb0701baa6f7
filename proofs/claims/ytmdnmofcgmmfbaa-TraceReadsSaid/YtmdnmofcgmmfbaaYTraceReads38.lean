import Derived.Test.YtmdnmofcgmmfbaaYTraceReads34
import Derived.Test.YtmdnmofcgmmfbaaYTraceReads37
set_option linter.unusedVariables false
set_option linter.unusedSimpArgs false
namespace Go.Proofs.Ytmdnmofcgmmfbaa.traceReads
open Go.RowKit Go.Proofs.Ytmdnmofcgmmfbaa.T Go.Proofs.YtmdnmofcgmmfbaaW.PrintWords Go.Proofs.Ytmdnmofcgmmfbaa.TraceLib Go.Proofs.Ytmdnmofcgmmfbaa.EvL
theorem known : Ev (fun k => l36known.f k) true := Ev.of l36known.mono (show l36known.f 1000 = some true by decide +kernel)
theorem last : Ev (fun k => (l36known.f k).bind fun t => some t) true := Ev.bind known (Ev.val rfl)
theorem pure : Pure := by
  intro l node fr to_ _ _ _ _
  refine Ev.rounds (r := true) ?_
  refine Ev.congr (fun k => l36TraceReads.f.eq_1 ..) ?_
  obtain ⟨b, hb, hf⟩ := few_ev l
  refine Ev.bind hb ?_
  by_cases h : b = true
  · have hF := hf h
    have hl := hF.1
    obtain ⟨r, h1, h2, h3⟩ := at_some l fr node
    have hp : trace_Pulses.f l node = some (trace_when.picks (fun r => r.f0) l node l.length) := if_pos (by omega)
    have hs : trace_Sent.f l node = some (trace_when.picks (fun r => decide (0 < r.f5)) l node l.length) := if_pos (by omega)
    have hp1 := picks_len (fun r => r.f0) l node l.length
    have hs1 := picks_len (fun r => decide (0 < r.f5)) l node l.length
    have hg := got_small hF node fr to_
    refine Ev.pos h (Ev.some_ h1 (Ev.some_ h2 (Ev.bind (reports_same r (h3 hF)) (Ev.pos rfl ?_))))
    refine Ev.some_ hp (Ev.bind (ref_pulses l hl node) (Ev.bind (ints_same _ (by omega)) (Ev.pos rfl ?_)))
    refine Ev.some_ hs (Ev.bind (ref_sent l hl node) (Ev.bind (ints_same _ (by omega)) (Ev.pos rfl ?_)))
    exact Ev.some_ (got_at hF node fr to_) (Ev.bind (ref_got hF node fr to_) (Ev.bind (delivers_same _ (by omega)) (Ev.pos rfl last)))
  · exact Ev.neg h last
end Go.Proofs.Ytmdnmofcgmmfbaa.traceReads
