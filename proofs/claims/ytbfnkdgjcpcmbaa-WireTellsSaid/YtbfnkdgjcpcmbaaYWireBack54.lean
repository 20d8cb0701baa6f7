import Derived.Test.YtbfnkdgjcpcmbaaYWireBack53
import Derived.Test.YtbfnkdgjcpcmbaaYWireBack49
section
namespace Go.Proofs.Ytbfnkdgjcpcmbaa.wireTells
open Go.RowKit Go.Proofs.Ytbfnkdgjcpcmbaa.X Go.Proofs.YtbfnkdgjcpcmbaaW.PrintWords Go.Proofs.YtbfnkdgjcpcmbaaW.PrintLast Go.Proofs.YtbfnkdgjcpcmbaaW.PrintMore
set_option linter.unusedVariables false
def W3 (x : Int) : Prop := (Lit.int .i64 x).wf = true
theorem op3 : Opens Try.prog 3 (Kd.int .i64) W3 := Opens.int Try.underlying3
def W22 (x : List Int) : Prop := x.length * 8 ≤ 140737488351232 ∧ ∀ y ∈ x, W3 y
theorem op22 : Opens Try.prog 22 (Kd.slice 3 (Kd.int .i64)) W22 := Opens.slice Try.underlying22 (by kernel_rfl) (by kernel_rfl) op3
def W24 (x : S24) : Prop := W3 x.f0 ∧ W3 x.f1 ∧ W3 x.f2 ∧ W3 x.f3 ∧ W3 x.f4 ∧ W3 x.f5 ∧ W3 x.f6 ∧ W3 x.f7 ∧ W3 x.f8 ∧ W3 x.f9 ∧ W22 x.f10
theorem op24 : Opens Try.prog 24 k24 W24 := Opens.iso (fun x : S24 => (x.f0, x.f1, x.f2, x.f3, x.f4, x.f5, x.f6, x.f7, x.f8, x.f9, x.f10)) (fun p => ⟨p.1, p.2.1, p.2.2.1, p.2.2.2.1, p.2.2.2.2.1, p.2.2.2.2.2.1, p.2.2.2.2.2.2.1, p.2.2.2.2.2.2.2.1, p.2.2.2.2.2.2.2.2.1, p.2.2.2.2.2.2.2.2.2.1, p.2.2.2.2.2.2.2.2.2.2⟩) (fun _ => rfl) (Opens.struct (tot := 11) Try.underlying24 (by kernel_rfl) (OpensF.cons (s := 1) rfl (by kernel_rfl) op3 (OpensF.cons (s := 1) rfl (by kernel_rfl) op3 (OpensF.cons (s := 1) rfl (by kernel_rfl) op3 (OpensF.cons (s := 1) rfl (by kernel_rfl) op3 (OpensF.cons (s := 1) rfl (by kernel_rfl) op3 (OpensF.cons (s := 1) rfl (by kernel_rfl) op3 (OpensF.cons (s := 1) rfl (by kernel_rfl) op3 (OpensF.cons (s := 1) rfl (by kernel_rfl) op3 (OpensF.cons (s := 1) rfl (by kernel_rfl) op3 (OpensF.cons (s := 1) rfl (by kernel_rfl) op3 (OpensF.last rfl (by kernel_rfl) op22))))))))))))
def W9 (x : ByteArray) : Prop := x.size ≤ 140737488351232
theorem op9 : Opens Try.prog 9 Kd.string W9 := Opens.string Try.underlying9
def W26 (x : S26) : Prop := W9 x.f0 ∧ W3 x.f1 ∧ W9 x.f2 ∧ W3 x.f3 ∧ W3 x.f4 ∧ W9 x.f5
theorem op26 : Opens Try.prog 26 k26 W26 := Opens.iso (fun x : S26 => (x.f0, x.f1, x.f2, x.f3, x.f4, x.f5)) (fun p => ⟨p.1, p.2.1, p.2.2.1, p.2.2.2.1, p.2.2.2.2.1, p.2.2.2.2.2⟩) (fun _ => rfl) (Opens.struct (tot := 6) Try.underlying26 (by kernel_rfl) (OpensF.cons (s := 1) rfl (by kernel_rfl) op9 (OpensF.cons (s := 1) rfl (by kernel_rfl) op3 (OpensF.cons (s := 1) rfl (by kernel_rfl) op9 (OpensF.cons (s := 1) rfl (by kernel_rfl) op3 (OpensF.cons (s := 1) rfl (by kernel_rfl) op3 (OpensF.last rfl (by kernel_rfl) op9)))))))
def W5 (x : Int) : Prop := (Lit.int .u8 x).wf = true
theorem op5 : Opens Try.prog 5 (Kd.int .u8) W5 := Opens.int Try.underlying5
def Pure : Prop := ∀ (x0 : S24) (x1 : S26) (x2 : Int) (x3 : Int), W24 x0 → W26 x1 → W3 x2 → W5 x3 → ∃ k, l11WireTells.f k x0.f0 x0.f1 x0.f2 x0.f3 x0.f4 x0.f5 x0.f6 x0.f7 x0.f8 x0.f9 x0.f10 x1.f0 x1.f1 x1.f2 x1.f3 x1.f4 x1.f5 x2 x3 = some true
end Go.Proofs.Ytbfnkdgjcpcmbaa.wireTells
end
section
set_option linter.unusedVariables false
set_option linter.unusedSimpArgs false
namespace Go.Proofs.Ytbfnkdgjcpcmbaa.wireTells
open Go.RowKit Go.Proofs.Ytbfnkdgjcpcmbaa.X Go.Proofs.YtbfnkdgjcpcmbaaW.PrintWords Go.Proofs.Ytbfnkdgjcpcmbaa.ConfLib Go.Proofs.Ytbfnkdgjcpcmbaa.Bytes Go.Proofs.Ytbfnkdgjcpcmbaa.PacketLib Go.Proofs.Ytbfnkdgjcpcmbaa.CrcLib Go.Proofs.Ytbfnkdgjcpcmbaa.WireMath Go.Proofs.Ytbfnkdgjcpcmbaa.WireLib
theorem pure : Pure := by
  rintro ⟨n, f, d, p, r, dr, o, s, m, fr, t⟩ ⟨v, ex, vec, slot, cyc, tx⟩ i b _ _ hi hb
  have wi := wf64 hi
  have wb := wf8 hb
  refine ⟨9001, ?_⟩
  have hj : ∀ (x : ByteArray), l11WireTells.j0 9001 i b x true n f d p r dr o s m fr t = some true := by
    intro x
    rw [show (9001 : Nat) = 9000 + 1 from rfl, l11WireTells.j0, if_pos rfl, known_at (by omega)]
    rfl
  unfold l11WireTells.f
  rw [enc_at n f d p r dr o s m fr t v ex vec slot cyc tx (by omega), Option.bind_some]
  by_cases h : right n f d p r dr o s m fr t v ex vec slot cyc tx = 0
  · obtain ⟨l, h1, h2, h3⟩ := enc_list n f d p r dr o s m fr t v ex vec slot cyc tx h
    have hz : (⟨(sealed l).toArray⟩ : ByteArray).size = (sealed l).length := sz _
    have hl : (sealed l).length = l.length + 4 := by rw [sealed, List.length_append, four_length]
    rw [h1, if_pos rfl]
    dsimp only
    by_cases h4 : i < 0
    · rw [if_pos h4, hj]
    rw [if_neg h4, hz]
    by_cases h5 : i ≥ ((sealed l).length : Int)
    · rw [if_pos h5, hj]
    rw [if_neg h5, if_pos (by omega), if_pos (by omega)]
    obtain ⟨q, rfl⟩ := Int.eq_ofNat_of_zero_le (by omega : 0 ≤ i)
    have hq : q < (sealed l).length := by omega
    have hbt : bt ⟨(sealed l).toArray⟩ (q : Int) = ((sealed l)[q].toNat : Int) := Bytes.bt_nat _ _ (by omega)
    rw [hbt]
    by_cases h6 : (((sealed l)[q].toNat : Int) == b) = true
    · rw [h6, hj]
    · rw [Bool.eq_false_iff.2 h6, show (9001 : Nat) = 9000 + 1 from rfl, l11WireTells.j0, if_neg (by decide), if_pos (by omega), if_pos (by omega), Option.bind_some]
      have hso : (strOfNums [b]).size = 1 := strOfNums_size _
      rw [hso, hz, Bytes.wrap_small (by omega) (by omega), if_pos (by omega), if_pos (by omega), if_pos (by omega), if_pos (by omega)]
      have e : (⟨(sealed l).toArray⟩ : ByteArray).extract 0 ((q : Int)).toNat ++ strOfNums [b] ++ (⟨(sealed l).toArray⟩ : ByteArray).extract ((q : Int) + 1).toNat (⟨(sealed l).toArray⟩ : ByteArray).size = ⟨((sealed l).set q (UInt8.ofNat b.toNat)).toArray⟩ := by
        refine Bytes.ext ?_
        rw [append_list, append_list, take_list, drop_list, Bytes.ex, Bytes.ex, strOfNums_data]
        rw [show ((q : Int) + 1).toNat = q + 1 by omega, Int.toNat_natCast]
        exact other_list hq _
      rw [hz] at e
      rw [e, dec_at _ _ _ _ _ _ _ _ _ _ _ _ (by omega), Option.bind_some]
      have hr := refused l q hq (UInt8.ofNat b.toNat) (by
        intro hc
        apply h6
        rw [hc, UInt8.toNat_ofNat', beq_iff_eq]
        omega)
      have hd : (dec n f d p r dr o s m fr t ⟨((sealed l).set q (UInt8.ofNat b.toNat)).toArray⟩) = no 4 := by
        unfold dec
        rw [if_pos (right_parts h).1, if_neg (by rw [sz, List.length_set]; omega), hr, if_neg (by decide)]
      rw [hd]
      show (if (4 : Int) = 4 then _ else _) = _
      rw [if_pos rfl, known_at (by omega)]
      rfl
  · have he : (enc n f d p r dr o s m fr t v ex vec slot cyc tx).2 ≠ 0 := by
      unfold enc
      rw [if_neg h]
      exact h
    rw [if_neg he, hj]
end Go.Proofs.Ytbfnkdgjcpcmbaa.wireTells
end
