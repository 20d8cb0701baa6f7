import Derived.Test.YtbfnkdgjcpcmbaaYWireReads53
section
set_option linter.unusedVariables false
set_option linter.unusedSimpArgs false
namespace Go.Proofs.Ytbfnkdgjcpcmbaa.CrcLib
open Go.RowKit Go.Proofs.Ytbfnkdgjcpcmbaa.X Go.Proofs.YtbfnkdgjcpcmbaaW.PrintWords Go.Proofs.Ytbfnkdgjcpcmbaa.Bytes
end Go.Proofs.Ytbfnkdgjcpcmbaa.CrcLib
namespace Go.Proofs.Ytbfnkdgjcpcmbaa.WireLib
open Go.RowKit Go.Proofs.Ytbfnkdgjcpcmbaa.X Go.Proofs.YtbfnkdgjcpcmbaaW.PrintWords
theorem known_ : l11known.f 300 = some true := by decide +kernel
theorem known_at {k : Nat} (hk : 300 ≤ k) : l11known.f k = some true := at_rounds l11known.mono hk known_
end Go.Proofs.Ytbfnkdgjcpcmbaa.WireLib
end
section
set_option linter.unusedVariables false
set_option linter.unusedSimpArgs false
namespace Go.Proofs.Ytbfnkdgjcpcmbaa.wireReads
open Go.RowKit Go.Proofs.Ytbfnkdgjcpcmbaa.X Go.Proofs.YtbfnkdgjcpcmbaaW.PrintWords Go.Proofs.Ytbfnkdgjcpcmbaa.ConfLib Go.Proofs.Ytbfnkdgjcpcmbaa.Bytes Go.Proofs.Ytbfnkdgjcpcmbaa.PacketLib Go.Proofs.Ytbfnkdgjcpcmbaa.CrcLib Go.Proofs.Ytbfnkdgjcpcmbaa.WireMath Go.Proofs.Ytbfnkdgjcpcmbaa.WireLib
theorem pure : Pure := by
  rintro ⟨n, f, d, p, r, dr, o, s, m, fr, t⟩ x _ _
  refine ⟨9000, ?_⟩
  unfold l11WireReads.f
  rw [dec_at n f d p r dr o s m fr t x (by omega), Option.bind_some, ref_dec_at n f d p r dr o s m fr t x (by omega), Option.bind_some, if_pos (by simp), if_pos rfl, known_at (by omega)]
  rfl
end Go.Proofs.Ytbfnkdgjcpcmbaa.wireReads
end
