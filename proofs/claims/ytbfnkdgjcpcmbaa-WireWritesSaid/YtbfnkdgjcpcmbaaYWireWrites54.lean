import Derived.Test.YtbfnkdgjcpcmbaaYWireWrites53
import Derived.Test.YtbfnkdgjcpcmbaaYWireWrites43
section
set_option linter.unusedVariables false
set_option linter.unusedSimpArgs false
namespace Go.Proofs.Ytbfnkdgjcpcmbaa.WireLib
open Go.RowKit Go.Proofs.Ytbfnkdgjcpcmbaa.X Go.Proofs.YtbfnkdgjcpcmbaaW.PrintWords Go.Proofs.Ytbfnkdgjcpcmbaa.ConfLib Go.Proofs.Ytbfnkdgjcpcmbaa.Bytes Go.Proofs.Ytbfnkdgjcpcmbaa.WireMath Go.Proofs.Ytbfnkdgjcpcmbaa.PacketLib Go.Proofs.Ytbfnkdgjcpcmbaa.CrcLib
def St (s : ByteArray) (a : Nat) (r : List UInt8) : Prop := a ≤ s.size ∧ s.data.toList.drop a = r
theorem St.len {s : ByteArray} {a : Nat} {r : List UInt8} (h : St s a r) : r.length = s.size - a := by rw [← h.2, List.length_drop, data_length]
def nums (l : List UInt8) : List Int := l.map fun y => (y.toNat : Int)
section
variable (n f d p r dr o s m fr : Int) (t : List Int)
end
end Go.Proofs.Ytbfnkdgjcpcmbaa.WireLib
end
section
set_option linter.unusedVariables false
set_option linter.unusedSimpArgs false
namespace Go.Proofs.Ytbfnkdgjcpcmbaa.CrcLib
open Go.RowKit Go.Proofs.Ytbfnkdgjcpcmbaa.X Go.Proofs.YtbfnkdgjcpcmbaaW.PrintWords Go.Proofs.Ytbfnkdgjcpcmbaa.Bytes
end Go.Proofs.Ytbfnkdgjcpcmbaa.CrcLib
namespace Go.Proofs.Ytbfnkdgjcpcmbaa.WireLib
open Go.RowKit Go.Proofs.Ytbfnkdgjcpcmbaa.X Go.Proofs.YtbfnkdgjcpcmbaaW.PrintWords
theorem known_ : l11known.f 300 = some true := by decide +kernel
theorem known_at {k : Nat} (hk : 300 ≤ k) : l11known.f k = some true := at_rounds l11known.mono hk known_
end Go.Proofs.Ytbfnkdgjcpcmbaa.WireLib
end
section
set_option linter.unusedVariables false
set_option linter.unusedSimpArgs false
namespace Go.Proofs.Ytbfnkdgjcpcmbaa.wireWrites
open Go.RowKit Go.Proofs.Ytbfnkdgjcpcmbaa.X Go.Proofs.YtbfnkdgjcpcmbaaW.PrintWords Go.Proofs.Ytbfnkdgjcpcmbaa.ConfLib Go.Proofs.Ytbfnkdgjcpcmbaa.Bytes Go.Proofs.Ytbfnkdgjcpcmbaa.PacketLib Go.Proofs.Ytbfnkdgjcpcmbaa.CrcLib Go.Proofs.Ytbfnkdgjcpcmbaa.WireMath Go.Proofs.Ytbfnkdgjcpcmbaa.WireLib
theorem pure : Pure := by
  rintro ⟨n, f, d, p, r, dr, o, s, m, fr, t⟩ ⟨v, ex, vec, slot, cyc, tx⟩ _ _
  refine ⟨9000, ?_⟩
  unfold l11WireWrites.f
  rw [enc_at n f d p r dr o s m fr t v ex vec slot cyc tx (by omega), Option.bind_some, ref_enc_at n f d p r dr o s m fr t v ex vec slot cyc tx (by omega), Option.bind_some, if_pos rfl, if_pos rfl]
  rw [size_at n f d p r dr o s m fr t v ex vec slot cyc tx (by omega), Option.bind_some, ref_size_at n f d p r dr o s m fr t v ex vec slot cyc tx (by omega), Option.bind_some, if_pos rfl, known_at (by omega)]
  rfl
end Go.Proofs.Ytbfnkdgjcpcmbaa.wireWrites
end
