import Derived.Test.YtbfnkdgjcpcmbaaYPacketRight31
import Derived.Test.YtbfnkdgjcpcmbaaYPacketRight35
import Derived.Test.YtbfnkdgjcpcmbaaYPacketRight28
set_option linter.unusedVariables false
set_option linter.unusedSimpArgs false
namespace Go.Proofs.Ytbfnkdgjcpcmbaa.packetRight
open Go.RowKit Go.Proofs.Ytbfnkdgjcpcmbaa.X Go.Proofs.YtbfnkdgjcpcmbaaW.PrintWords Go.Proofs.Ytbfnkdgjcpcmbaa.ConfLib Go.Proofs.Ytbfnkdgjcpcmbaa.PacketLib
theorem known : bellwetherlaw10_known.f 2000 = some true := by decide +kernel
theorem pure : Pure := by
  rintro ⟨n, f, d, p, r, dr, o, s, m, fr, t⟩ ⟨v, ex, vec, slot, cyc, tx⟩ _ _
  refine ⟨2000, ?_⟩
  unfold bellwetherlaw10_PacketRight.f
  simp only [right_at n f d p r dr o s m fr t v ex vec slot cyc tx (show 12 < 2000 by decide), ref_right_at n f d p r dr o s m fr t v ex vec slot cyc tx (show 1010 < 2000 by decide), known, Option.bind_some, if_true]
end Go.Proofs.Ytbfnkdgjcpcmbaa.packetRight
