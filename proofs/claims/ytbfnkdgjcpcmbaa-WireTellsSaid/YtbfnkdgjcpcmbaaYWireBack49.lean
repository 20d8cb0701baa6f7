import Derived.Test.YtbfnkdgjcpcmbaaYWireBack48
section
set_option linter.unusedVariables false
set_option linter.unusedSimpArgs false
namespace Go.Proofs.Ytbfnkdgjcpcmbaa.CrcLib
open Go.RowKit Go.Proofs.Ytbfnkdgjcpcmbaa.X Go.Proofs.YtbfnkdgjcpcmbaaW.PrintWords Go.Proofs.Ytbfnkdgjcpcmbaa.Bytes
theorem xor_cancel {a b c : Nat} (h : a ^^^ c = b ^^^ c) : a = b := by
  have := congrArg (· ^^^ c) h
  simpa [Nat.xor_assoc] using this
theorem high_bit {x y : Nat} (hx : x < 2147483648) (hy : y < 2147483648) : x ≠ y ^^^ 3988292384 := by
  intro h
  have h1 := congrArg (fun n => Nat.testBit n 31) h
  simp only [Nat.testBit_xor] at h1
  rw [Nat.testBit_lt_two_pow (by omega : x < 2 ^ 31), Nat.testBit_lt_two_pow (by omega : y < 2 ^ 31)] at h1
  exact absurd h1 (by decide)
theorem g_inj {a b : Nat} (ha : a < 4294967296) (hb : b < 4294967296) (h : g a = g b) : a = b := by
  unfold g at h
  split at h <;> split at h
  · omega
  · exact absurd h (high_bit (by omega) (by omega))
  · exact absurd h.symm (high_bit (by omega) (by omega))
  · have := xor_cancel h
    omega
theorem gs_inj : ∀ (d : Nat) {a b : Nat}, a < 4294967296 → b < 4294967296 → gs d a = gs d b → a = b
  | 0, _, _, _, _, h => h
  | d + 1, _, _, ha, hb, h => g_inj ha hb (gs_inj d (g_lt ha) (g_lt hb) h)
theorem st_inj_left {s t b : Nat} (hs : s < 4294967296) (ht : t < 4294967296) (hb : b < 4294967296) (h : st s b = st t b) : s = t :=
  xor_cancel (gs_inj 8 (xor_lt32 hs hb) (xor_lt32 ht hb) h)
theorem st_inj_right {s b c : Nat} (hs : s < 4294967296) (hb : b < 4294967296) (hc : c < 4294967296) (h : st s b = st s c) : b = c := by
  have := gs_inj 8 (xor_lt32 hs hb) (xor_lt32 hs hc) h
  rw [Nat.xor_comm s b, Nat.xor_comm s c] at this
  exact xor_cancel this
theorem b32 (b : UInt8) : b.toNat < 4294967296 := by have := b.toNat_lt; omega
theorem run_append (s : Nat) (l m : List UInt8) : run s (l ++ m) = run (run s l) m := by simp [run, List.foldl_append]
theorem run_inj : ∀ (l : List UInt8) {s t : Nat}, s < 4294967296 → t < 4294967296 → run s l = run t l → s = t
  | [], _, _, _, _, h => h
  | b :: l, _, _, hs, ht, h => st_inj_left hs ht (b32 b) (run_inj l (st_lt hs (b32 b)) (st_lt ht (b32 b)) h)
theorem crc_other (l m : List UInt8) (b c : UInt8) (h : b ≠ c) : crc (l ++ b :: m) ≠ crc (l ++ c :: m) := by
  intro e
  have h1 := xor_cancel e
  rw [run_append, run_append] at h1
  have hr := run_lt l (s := 4294967295) (by omega)
  have h2 := run_inj m (st_lt hr (b32 b)) (st_lt hr (b32 c)) h1
  have h3 := st_inj_right hr (b32 b) (b32 c) h2
  exact h (UInt8.toNat_inj.1 h3)
theorem four_inj {c d : Nat} (hc : c < 4294967296) (hd : d < 4294967296) (h : four c = four d) : c = d := by
  have key : ∀ m n : Nat, m < 256 → n < 256 → UInt8.ofNat m = UInt8.ofNat n → m = n := fun m n hm hn e => by
    have := congrArg UInt8.toNat e
    rw [UInt8.toNat_ofNat', UInt8.toNat_ofNat'] at this
    omega
  simp only [four, List.cons.injEq, and_true] at h
  have h0 := key _ _ (by omega) (by omega) h.1
  have h1 := key _ _ (by omega) (by omega) h.2.1
  have h2 := key _ _ (by omega) (by omega) h.2.2.1
  have h3 := key _ _ (by omega) (by omega) h.2.2.2
  omega
theorem other_list {l : List UInt8} {i : Nat} (h : i < l.length) (b : UInt8) : l.take i ++ [b] ++ l.drop (i + 1) = l.set i b := by
  rw [List.set_eq_take_append_cons_drop, if_pos h]
  simp
theorem refused (l : List UInt8) (i : Nat) (hi : i < (sealed l).length) (b : UInt8) (hb : (sealed l)[i] ≠ b) : opened ⟨((sealed l).set i b).toArray⟩ = (⟨#[]⟩, 4) := by
  have hs : (sealed l).length = l.length + 4 := by rw [sealed, List.length_append, four_length]
  have hz : (⟨((sealed l).set i b).toArray⟩ : ByteArray).size = l.length + 4 := by rw [size_list, ex, List.length_set, hs]
  unfold opened
  rw [if_neg (by omega), hz, show l.length + 4 - 4 = l.length by omega, ex]
  rw [if_neg]
  intro h
  rcases Nat.lt_or_ge i l.length with hlt | hge
  · have hg : (sealed l)[i] = l[i] := by simp only [sealed, List.getElem_append_left hlt]
    have h1 : (sealed l).set i b = l.set i b ++ four (crc l) := by rw [sealed, List.set_append_left _ _ hlt]
    have hl2 : (l.set i b).length = l.length := List.length_set
    rw [h1, ← hl2, List.drop_left, List.take_left] at h
    have h2 := four_inj (crc_lt l) (crc_lt _) h
    have h3 : l = l.take i ++ l[i] :: l.drop (i + 1) := by rw [List.getElem_cons_drop, List.take_append_drop]
    rw [List.set_eq_take_append_cons_drop, if_pos hlt] at h2
    have h4 := crc_other (l.take i) (l.drop (i + 1)) l[i] b (by rw [← hg]; exact hb)
    rw [← h3] at h4
    exact h4 h2
  · obtain ⟨j, rfl⟩ : ∃ j, i = l.length + j := ⟨i - l.length, by omega⟩
    have h1 : (sealed l).set (l.length + j) b = l ++ (four (crc l)).set j b := by
      rw [sealed, List.set_append_right _ _ (by omega)]
      rw [show l.length + j - l.length = j by omega]
    have hj : j < (four (crc l)).length := by rw [four_length]; omega
    have hg : (sealed l)[l.length + j] = (four (crc l))[j] := by simp only [sealed, List.getElem_append_right (Nat.le_add_right _ _), Nat.add_sub_cancel_left]
    rw [h1, List.drop_left, List.take_left] at h
    have h2 : ((four (crc l)).set j b)[j]'(by rw [List.length_set]; exact hj) = b := List.getElem_set_self _
    have h3 : ((four (crc l)).set j b)[j]? = (four (crc l))[j]? := by rw [h]
    rw [List.getElem?_eq_getElem (by rw [List.length_set]; exact hj), List.getElem?_eq_getElem hj, h2] at h3
    exact hb (by rw [hg]; exact (Option.some.inj h3).symm)
end Go.Proofs.Ytbfnkdgjcpcmbaa.CrcLib
namespace Go.Proofs.Ytbfnkdgjcpcmbaa.WireLib
open Go.RowKit Go.Proofs.Ytbfnkdgjcpcmbaa.X Go.Proofs.YtbfnkdgjcpcmbaaW.PrintWords
theorem known_ : l11known.f 300 = some true := by decide +kernel
theorem known_at {k : Nat} (hk : 300 ≤ k) : l11known.f k = some true := at_rounds l11known.mono hk known_
end Go.Proofs.Ytbfnkdgjcpcmbaa.WireLib
end
section
set_option linter.unusedVariables false
set_option linter.unusedSimpArgs false
namespace Go.Proofs.Ytbfnkdgjcpcmbaa.wireBack
open Go.RowKit Go.Proofs.Ytbfnkdgjcpcmbaa.X Go.Proofs.YtbfnkdgjcpcmbaaW.PrintWords Go.Proofs.Ytbfnkdgjcpcmbaa.ConfLib Go.Proofs.Ytbfnkdgjcpcmbaa.Bytes Go.Proofs.Ytbfnkdgjcpcmbaa.PacketLib Go.Proofs.Ytbfnkdgjcpcmbaa.CrcLib Go.Proofs.Ytbfnkdgjcpcmbaa.WireMath Go.Proofs.Ytbfnkdgjcpcmbaa.WireLib
theorem pure : Pure := by
  rintro ⟨n, f, d, p, r, dr, o, s, m, fr, t⟩ ⟨v, ex, vec, slot, cyc, tx⟩ _ _
  refine ⟨9000, ?_⟩
  unfold l11WireBack.f
  rw [ref_right_at n f d p r dr o s m fr t v ex vec slot cyc tx (by omega), Option.bind_some]
  by_cases h : right n f d p r dr o s m fr t v ex vec slot cyc tx = 0
  · rw [if_pos h, enc_at n f d p r dr o s m fr t v ex vec slot cyc tx (by omega), Option.bind_some, dec_at n f d p r dr o s m fr t _ (by omega), Option.bind_some]
    have hs := enc_size n f d p r dr o s m fr t v ex vec slot cyc tx h
    have he : (enc n f d p r dr o s m fr t v ex vec slot cyc tx).2 = 0 := by
      unfold enc
      rw [if_pos h]
    rw [if_pos he]
    have hd := dec_enc n f d p r dr o s m fr t v ex vec slot cyc tx h
    rw [hd, if_pos rfl, if_pos (by simp), if_pos (by omega), size_at n f d p r dr o s m fr t v ex vec slot cyc tx (by omega), Option.bind_some, if_pos rfl, known_at (by omega)]
    rfl
  · rw [if_neg h, enc_at n f d p r dr o s m fr t v ex vec slot cyc tx (by omega), Option.bind_some, Option.bind_some]
    have he : enc n f d p r dr o s m fr t v ex vec slot cyc tx = (⟨#[]⟩, right n f d p r dr o s m fr t v ex vec slot cyc tx) := by
      unfold enc
      rw [if_neg h]
    rw [if_pos (by rw [he]), size_at n f d p r dr o s m fr t v ex vec slot cyc tx (by omega), Option.bind_some, he]
    dsimp only
    rw [if_pos (show ((⟨#[]⟩ : ByteArray).size : Int) = 0 from rfl), known_at (by omega)]
    rfl
end Go.Proofs.Ytbfnkdgjcpcmbaa.wireBack
end
