import Derived.Test.YtbfnkdgjcpcmbaaYWireBack49
section
namespace Go.Proofs.Ytbfnkdgjcpcmbaa.wireOnly
open Go.RowKit Go.Proofs.Ytbfnkdgjcpcmbaa.X Go.Proofs.YtbfnkdgjcpcmbaaW.PrintWords Go.Proofs.YtbfnkdgjcpcmbaaW.PrintLast Go.Proofs.YtbfnkdgjcpcmbaaW.PrintMore
set_option linter.unusedVariables false
def W3 (x : Int) : Prop := (Lit.int .i64 x).wf = true
theorem op3 : Opens Try.prog 3 (Kd.int .i64) W3 := Opens.int Try.underlying3
def W22 (x : List Int) : Prop := x.length * 8 ≤ 140737488351232 ∧ ∀ y ∈ x, W3 y
theorem op22 : Opens Try.prog 22 (Kd.slice 3 (Kd.int .i64)) W22 := Opens.slice Try.underlying22 (by kernel_rfl) (by kernel_rfl) op3
def W24 (x : S24) : Prop := W3 x.f0 ∧ W3 x.f1 ∧ W3 x.f2 ∧ W3 x.f3 ∧ W3 x.f4 ∧ W3 x.f5 ∧ W3 x.f6 ∧ W3 x.f7 ∧ W3 x.f8 ∧ W3 x.f9 ∧ W22 x.f10
theorem op24 : Opens Try.prog 24 k24 W24 := Opens.iso (fun x : S24 => (x.f0, x.f1, x.f2, x.f3, x.f4, x.f5, x.f6, x.f7, x.f8, x.f9, x.f10)) (fun p => ⟨p.1, p.2.1, p.2.2.1, p.2.2.2.1, p.2.2.2.2.1, p.2.2.2.2.2.1, p.2.2.2.2.2.2.1, p.2.2.2.2.2.2.2.1, p.2.2.2.2.2.2.2.2.1, p.2.2.2.2.2.2.2.2.2.1, p.2.2.2.2.2.2.2.2.2.2⟩) (fun _ => rfl) (Opens.struct (tot := 11) Try.underlying24 (by kernel_rfl) (OpensF.cons (s := 1) rfl (by kernel_rfl) op3 (OpensF.cons (s := 1) rfl (by kernel_rfl) op3 (OpensF.cons (s := 1) rfl (by kernel_rfl) op3 (OpensF.cons (s := 1) rfl (by kernel_rfl) op3 (OpensF.cons (s := 1) rfl (by kernel_rfl) op3 (OpensF.cons (s := 1) rfl (by kernel_rfl) op3 (OpensF.cons (s := 1) rfl (by kernel_rfl) op3 (OpensF.cons (s := 1) rfl (by kernel_rfl) op3 (OpensF.cons (s := 1) rfl (by kernel_rfl) op3 (OpensF.cons (s := 1) rfl (by kernel_rfl) op3 (OpensF.last rfl (by kernel_rfl) op22))))))))))))
def W9 (x : ByteArray) : Prop := x.size ≤ 140737488351232
theorem op9 : Opens Try.prog 9 Kd.string W9 := Opens.string Try.underlying9
def Pure : Prop := ∀ (x0 : S24) (x1 : ByteArray), W24 x0 → W9 x1 → ∃ k, l11WireOnly.f k x0.f0 x0.f1 x0.f2 x0.f3 x0.f4 x0.f5 x0.f6 x0.f7 x0.f8 x0.f9 x0.f10 x1 = some true
end Go.Proofs.Ytbfnkdgjcpcmbaa.wireOnly
end
section
set_option linter.unusedVariables false
set_option linter.unusedSimpArgs false
namespace Go.Proofs.Ytbfnkdgjcpcmbaa.wireOnly
open Go.RowKit Go.Proofs.Ytbfnkdgjcpcmbaa.X Go.Proofs.YtbfnkdgjcpcmbaaW.PrintWords Go.Proofs.Ytbfnkdgjcpcmbaa.ConfLib Go.Proofs.Ytbfnkdgjcpcmbaa.Bytes Go.Proofs.Ytbfnkdgjcpcmbaa.PacketLib Go.Proofs.Ytbfnkdgjcpcmbaa.CrcLib Go.Proofs.Ytbfnkdgjcpcmbaa.WireMath Go.Proofs.Ytbfnkdgjcpcmbaa.WireLib
theorem pure : Pure := by
  rintro ⟨n, f, d, p, r, dr, o, s, m, fr, t⟩ x _ _
  refine ⟨9000, ?_⟩
  unfold l11WireOnly.f
  rw [dec_at n f d p r dr o s m fr t x (by omega), Option.bind_some]
  rcases dec_cases n f d p r dr o s m fr t x with ⟨R, B, l, h1, h2, h3, h4⟩ | ⟨e, h1, h2⟩
  · rw [h1]
    have h2' : right n f d p r dr o s m fr t ⟨(dt l.tail R).toArray⟩ ((rdX R B l).1 : Nat) ⟨(rdX R B l).2.1.toArray⟩ ((rdY R B l).1 : Nat) ((rdY R B l).2.1 : Nat) ⟨(rdY R B l).2.2.1.toArray⟩ = 0 := h2
    have he : enc n f d p r dr o s m fr t ⟨(dt l.tail R).toArray⟩ ((rdX R B l).1 : Nat) ⟨(rdX R B l).2.1.toArray⟩ ((rdY R B l).1 : Nat) ((rdY R B l).2.1 : Nat) ⟨(rdY R B l).2.2.1.toArray⟩ = (x, 0) := by
      unfold enc
      rw [if_pos h2']
      simp only [Int.toNat_natCast, Bytes.ex]
      rw [rd_good h3, h4, mk_list]
    show (if (0 : Int) = 0 then _ else _) = _
    rw [if_pos rfl]
    unfold pktL
    rw [enc_at _ _ _ _ _ _ _ _ _ _ _ _ _ _ _ _ _ (by omega), Option.bind_some, ref_right_at _ _ _ _ _ _ _ _ _ _ _ _ _ _ _ _ _ (by omega), Option.bind_some, if_pos h2', he, if_pos rfl, if_pos rfl, known_at (by omega)]
    rfl
  · rw [h1]
    show (if e = 0 then _ else _) = _
    rw [if_neg h2, if_pos (by unfold no; simp only [ByteArray.toList_eq]; rfl), known_at (by omega)]
    rfl
end Go.Proofs.Ytbfnkdgjcpcmbaa.wireOnly
end
