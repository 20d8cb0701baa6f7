import Derived.Test.YtbfnkdgjcpcmbaaYWireWrites11
set_option maxHeartbeats 1000000
set_option maxRecDepth 1000000
namespace Go.Proofs.Ytbfnkdgjcpcmbaa.X
open Go.RowKit Go.Proofs.YtbfnkdgjcpcmbaaW.PrintWords Go.Proofs.YtbfnkdgjcpcmbaaW.PrintLast Go.Proofs.YtbfnkdgjcpcmbaaW.PrintMore
attribute [local go_sem] max2_int min2_int max_two min_two max_three min_three max_four min_four   -- for this text's walks alone
set_option linter.unusedVariables false
set_option linter.unusedSimpArgs false
def packet_digits.isd (c : UInt8) : Bool := decide (48 ≤ c.toNat) && decide (c.toNat ≤ 50)
def packet_digits.all (s : ByteArray) : Bool := s.data.toList.all packet_digits.isd
def packet_digits.f (a0 : ByteArray) (a1 : Int) : Option (Bool) := some (decide ((a0.size : Int) = a1) && packet_digits.all a0)
theorem packet_digits.out_end (s : ByteArray) (p : Nat) (h : ¬ p < s.size) : (s.data.toList.drop p).all packet_digits.isd = true := by
  rw [List.drop_eq_nil_of_le (by rw [data_length]; omega)]
  rfl
theorem packet_digits.out_step (s : ByteArray) (p : Nat) (h : p < s.size) : (s.data.toList.drop p).all packet_digits.isd = (packet_digits.isd (s[p]'h) && (s.data.toList.drop (p + 1)).all packet_digits.isd) := by
  rw [List.drop_eq_getElem_cons (by rw [data_length]; exact h)]
  rfl
theorem packet_digits.calls (a0 : ByteArray) (a1 : Int) (r : Bool) (w : World) (h : packet_digits.f a0 a1 = some r) :
    Calls Try.prog 35 #[.string a0, .int .i64 a1] w fun e w' => e = .returned (.bool r) ∧ Below w.heap.size w w' := by
  unfold packet_digits.f at h
  have h1 := Option.some.inj h
  clear h
  have HR := Sd.mk h1
  clear h1
  by_cases hn : (a0.size : Int) = a1
  · have hnb : ((a0.size : Int) != a1) = false := by simp [hn]
    have HV := Sd.mk (show r = packet_digits.all a0 by rw [← HR.out, decide_eq_true hn]; rfl)
    clear hn HR
    go_enter Try.func35, Try.ntmps35
    go_wp2
    go_loopw [6] (fun (_ : Value) wr => ∃ pos : Nat, wr = w.iter a0 pos ∧ Sd ((a0.data.toList.drop pos).all packet_digits.isd = packet_digits.all a0)) (fun _ wr => a0.size - wr.iterPos w.heap.size)
    case atStart => exact ⟨0, rfl, ⟨rfl⟩⟩
    case round =>
      obtain ⟨pos, rfl, HC⟩ := hrel
      by_cases hp : pos < a0.size
      · have hnx : ∀ ty, (Instr.next (.pointer (some ⟨w.heap.size, 0, none⟩)) true ty).run Try.prog (w.iter a0 pos) = _ := fun ty => run_next_any w a0 pos ty hp
        have HS := Sd.mk (packet_digits.out_step a0 pos hp)
        by_cases ha : (a0[pos]'hp).toNat < 128
        · have hdc := decode_ascii a0 pos hp ha
          generalize hcc : (a0[pos]'hp) = c at hdc ha HS
          rw [hdc] at hnx
          clear hdc hcc ha
          by_cases h1 : c.toNat < 48
          · have b1 : decide ((c.toNat : Int) < 48) = true := decide_eq_true (by omega)
            have HX := Sd.mk (show r = false by rw [HV.out, ← HC.out, HS.out, show packet_digits.isd c = false by unfold packet_digits.isd; rw [decide_eq_false (by omega)]; rfl]; rfl)
            clear HS HC HV h1
            go_wp2
            go_ret
            exact ⟨by rw [HX.out]; rfl, below_alloc (Below.refl _ w) _⟩
          · by_cases h2 : 50 < c.toNat
            · have b1 : decide ((c.toNat : Int) < 48) = false := decide_eq_false (by omega)
              have b2 : decide ((50 : Int) < (c.toNat : Int)) = true := decide_eq_true (by omega)
              have HX := Sd.mk (show r = false by rw [HV.out, ← HC.out, HS.out, show packet_digits.isd c = false by unfold packet_digits.isd; rw [decide_eq_false (show ¬ c.toNat ≤ 50 by omega)]; simp]; rfl)
              clear HS HC HV h1 h2
              go_wp2
              go_ret
              exact ⟨by rw [HX.out]; rfl, below_alloc (Below.refl _ w) _⟩
            · have b1 : decide ((c.toNat : Int) < 48) = false := decide_eq_false (by omega)
              have b2 : decide ((50 : Int) < (c.toNat : Int)) = false := decide_eq_false (by omega)
              have HX := Sd.mk (show (a0.data.toList.drop (pos + 1)).all packet_digits.isd = packet_digits.all a0 by rw [← HC.out, HS.out, show packet_digits.isd c = true by unfold packet_digits.isd; rw [decide_eq_true (show 48 ≤ c.toNat by omega), decide_eq_true (show c.toNat ≤ 50 by omega)]; rfl]; rfl)
              clear HS HC h1 h2
              go_wp2
              go_roundw
              case rel => exact ⟨pos + 1, rfl, HX⟩
              case measure => simp; omega
        · have hdc := decode_high a0 pos hp (by omega)
          have HX := Sd.mk (show r = false by rw [HV.out, ← HC.out, HS.out, show packet_digits.isd (a0[pos]'hp) = false by unfold packet_digits.isd; rw [decide_eq_false (show ¬ (a0[pos]'hp).toNat ≤ 50 by omega)]; simp]; rfl)
          clear HS HC HV ha
          generalize Utf8.decode a0 pos = q at hdc hnx
          obtain ⟨qr, qn⟩ := q
          have h1 := hdc.1
          clear hdc
          have h2 : 128 ≤ qr := h1
          clear h1
          have b1 : decide ((qr : Int) < 48) = false := decide_eq_false (by omega)
          have b2 : decide ((50 : Int) < (qr : Int)) = true := decide_eq_true (by omega)
          clear h2
          go_wp2
          go_ret
          exact ⟨by rw [HX.out]; rfl, below_alloc (Below.refl _ w) _⟩
      · have HE := Sd.mk (packet_digits.out_end a0 pos hp)
        have hnx : ∀ ty, (Instr.next (.pointer (some ⟨w.heap.size, 0, none⟩)) true ty).run Try.prog (w.iter a0 pos) = _ := fun ty => run_next_end w a0 pos ty hp
        go_wp2
        go_ret
        exact ⟨by rw [HV.out, ← HC.out, HE.out]; rfl, below_alloc (Below.refl _ w) _⟩
  · have hnb : ((a0.size : Int) != a1) = true := by simp [hn]
    have HV := Sd.mk (show r = false by rw [← HR.out, decide_eq_false hn]; rfl)
    clear hn HR
    go_enter Try.func35, Try.ntmps35
    go_wp2
    go_ret
    exact ⟨by rw [HV.out]; rfl, Below.refl _ _⟩
end Go.Proofs.Ytbfnkdgjcpcmbaa.X
