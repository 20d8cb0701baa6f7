import Derived.Maps.AppendAt
import Derived.Test.YtbfnkdgjcpcmbaaYWireWrites18
namespace Go.Proofs.Ytbfnkdgjcpcmbaa.X
open Go.RowKit Go.Proofs.YtbfnkdgjcpcmbaaW.PrintWords Go.Proofs.YtbfnkdgjcpcmbaaW.PrintLast Go.Proofs.YtbfnkdgjcpcmbaaW.PrintMore
attribute [local go_sem] max2_int min2_int max_two min_two max_three min_three max_four min_four   -- for this text's walks alone
set_option linter.unusedVariables false
set_option linter.unusedSimpArgs false
open Go
set_option maxHeartbeats 4000000
set_option maxRecDepth 100000
def wire_writer_digits.cv (s : ByteArray) (hi : Nat) : Nat → Int
  | 0 => 0
  | q + 1 => wire_writer_digits.cv s hi q * 4 + (bt s ((hi - 1 - q : Nat) : Int) - 48)
def wire_writer_digits.ok (s : ByteArray) : Prop := s.size ≤ 1000 ∧ ∀ j, j < s.size → 48 ≤ bt s (j : Int) ∧ bt s (j : Int) ≤ 51
instance wire_writer_digits.okd (s : ByteArray) : Decidable (wire_writer_digits.ok s) := by unfold wire_writer_digits.ok; infer_instance
theorem wire_writer_digits.cv_range {s : ByteArray} (h : wire_writer_digits.ok s) (hi : Nat) (hh : hi ≤ s.size) : ∀ q, q ≤ hi → 0 ≤ wire_writer_digits.cv s hi q ∧ wire_writer_digits.cv s hi q < 4 ^ q
  | 0, _ => ⟨Int.le_refl _, by show (0 : Int) < 1; omega⟩
  | q + 1, hq => by
    have h1 := wire_writer_digits.cv_range h hi hh q (by omega)
    have h2 := h.2 (hi - 1 - q) (by omega)
    have e : (4 : Int) ^ (q + 1) = 4 ^ q * 4 := Int.pow_succ _ _
    show 0 ≤ wire_writer_digits.cv s hi q * 4 + (bt s ((hi - 1 - q : Nat) : Int) - 48) ∧ wire_writer_digits.cv s hi q * 4 + (bt s ((hi - 1 - q : Nat) : Int) - 48) < 4 ^ (q + 1)
    omega
theorem wire_writer_digits.cv_small {s : ByteArray} (h : wire_writer_digits.ok s) (hi : Nat) (hh : hi ≤ s.size) (q : Nat) (hq : q ≤ hi) (h4 : q ≤ 4) : 0 ≤ wire_writer_digits.cv s hi q ∧ wire_writer_digits.cv s hi q < 256 := by
  have h1 := wire_writer_digits.cv_range h hi hh q hq
  have h2 : (4 : Int) ^ q ≤ 256 := by
    have : q = 0 ∨ q = 1 ∨ q = 2 ∨ q = 3 ∨ q = 4 := by omega
    rcases this with rfl | rfl | rfl | rfl | rfl <;> decide
  omega
theorem wire_writer_digits.cv_small3 {s : ByteArray} (h : wire_writer_digits.ok s) (hi : Nat) (hh : hi ≤ s.size) (q : Nat) (hq : q ≤ hi) (h4 : q ≤ 3) : wire_writer_digits.cv s hi q < 64 := by
  have h1 := wire_writer_digits.cv_range h hi hh q hq
  have h2 : (4 : Int) ^ q ≤ 64 := by
    have : q = 0 ∨ q = 1 ∨ q = 2 ∨ q = 3 := by omega
    rcases this with rfl | rfl | rfl | rfl <;> decide
  omega
def wire_writer_digits.pk (s : ByteArray) (m : Nat) : List Int := (List.range m).map (fun j => wire_writer_digits.cv s (min (4 * j + 4) s.size) (min (4 * j + 4) s.size - 4 * j))
theorem wire_writer_digits.pk_len (s : ByteArray) (m : Nat) : (wire_writer_digits.pk s m).length = m := by simp [wire_writer_digits.pk]
theorem wire_writer_digits.pk_succ (s : ByteArray) (m : Nat) : wire_writer_digits.pk s (m + 1) = wire_writer_digits.pk s m ++ [wire_writer_digits.cv s (min (4 * m + 4) s.size) (min (4 * m + 4) s.size - 4 * m)] := by simp [wire_writer_digits.pk, List.range_succ]
theorem wire_writer_digits.or_add {a d : Int} (ha : 0 ≤ a) (ha2 : a < 64) (hd : 0 ≤ d) (hd2 : d < 4) : Go.bits .or .i64 (a * 4) d = a * 4 + d := by
  obtain ⟨x, rfl⟩ := Int.eq_ofNat_of_zero_le ha
  obtain ⟨y, rfl⟩ := Int.eq_ofNat_of_zero_le hd
  have key : ∀ x : Fin 64, ∀ y : Fin 4, Go.bits .or .i64 ((x.val : Int) * 4) (y.val : Int) = (x.val : Int) * 4 + (y.val : Int) := by decide +kernel
  exact key ⟨x, by omega⟩ ⟨y, by omega⟩
theorem wire_writer_digits.calls (w0 : World) {W : World} {g : Nat} {L : List Int} (s : ByteArray) (hI : IsW w0 W g L) (hl : L.length ≤ 100000) (hok : wire_writer_digits.ok s) :
    Calls Try.prog 48 #[.pointer (some ⟨g, 0, none⟩), .string s] W fun e W' => (∃ u, e = .returned u) ∧ IsW w0 W' g (L ++ wire_writer_digits.pk s ((s.size + 3) / 4)) ∧ KeepT W W' g := by
  have HI := Sd.mk hI
  have HOK := Sd.mk hok
  have hs := hok.1
  clear hI hok
  go_enter Try.func48, Try.ntmps48
  go_wp2
  go_loopw [4] (fun i wr => ∃ j : Nat, j ≤ (s.size + 3) / 4 ∧ i = .int .i64 ((4 * j : Nat) : Int) ∧ IsW w0 wr g (L ++ wire_writer_digits.pk s j) ∧ KeepT W wr g) (fun i _ => 2000 - (intOf i).toNat)
  case atStart => exact ⟨0, Nat.zero_le _, rfl, by simpa [wire_writer_digits.pk] using HI.out, KeepT.refl W g⟩
  case round =>
    obtain ⟨j, hj, rfl, hIr, hKr⟩ := hrel
    have HIR := Sd.mk hIr
    have HKR := Sd.mk hKr
    clear hIr hKr
    by_cases hlt : 4 * j < s.size
    · obtain ⟨hi, hhi⟩ : ∃ hi, min (4 * j + 4) s.size = hi := ⟨_, rfl⟩
      have HHI := Sd.mk hhi
      have hh1 : hi ≤ s.size := by omega
      have hh2 : 4 * j < hi := by omega
      have hh3 : hi ≤ 4 * j + 4 := by omega
      have d1 : decide (((4 * j : Nat) : Int) < (s.size : Int)) = true := decide_eq_true (by omega)
      clear hhi
      by_cases hfull : ((s.size : Int) < 4 * (j : Int) + 4)
      all_goals
        go_wp2
        go_loop [5, 6] (fun n kk => ∃ q : Nat, q ≤ hi - 4 * j ∧ n = .int .i64 (wire_writer_digits.cv s hi q) ∧ kk = .int .i64 ((hi : Int) - 1 - (q : Int))) (fun _ kk => (intOf kk + 1).toNat)
        case atStart => exact ⟨0, Nat.zero_le _, rfl, by have := HHI.out; congr 1; omega⟩
        case round =>
          obtain ⟨q, hq, rfl, rfl⟩ := hrel
          by_cases hqlt : q < hi - 4 * j
          · have hcs := wire_writer_digits.cv_small HOK.out hi hh1 q (by omega) (by omega)
            have hix : ((hi : Int) - 1 - (q : Int)) = ((hi - 1 - q : Nat) : Int) := by omega
            have hd := HOK.out.2 (hi - 1 - q) (by omega)
            rw [hix]
            have hbt := bt_at s ((hi - 1 - q : Nat) : Int)
            have d2 : decide (4 * (j : Int) ≤ ((hi - 1 - q : Nat) : Int)) = true := decide_eq_true (by omega)
            have t1 : 0 ≤ ((hi - 1 - q : Nat) : Int) := by omega
            have t2 : ((hi - 1 - q : Nat) : Int) < (s.size : Int) := by omega
            have hb' : ((s[hi - 1 - q]'(by omega)).toNat : Int) = bt s ((hi - 1 - q : Nat) : Int) := by simpa using hbt (by omega)
            have hc3 : wire_writer_digits.cv s hi q < 64 := wire_writer_digits.cv_small3 HOK.out hi hh1 q (by omega) (by omega)
            have HB' := Sd.mk hb'
            have HD := Sd.mk hd
            have HC3 := Sd.mk hc3
            clear hb' hbt hd hix
            go_wp2
            go_round
            case rel =>
              refine ⟨q + 1, by omega, ?_, by congr 1; first | done | omega⟩
              have hd := HD.out
              rw [HB'.out, show (bt s ((hi - 1 - q : Nat) : Int) - 48) % 256 = bt s ((hi - 1 - q : Nat) : Int) - 48 by omega, wire_writer_digits.or_add hcs.1 HC3.out (by omega) (by omega)]
              rfl
            case measure => simp [intOf]; first | done | omega
          · have d2 : decide (4 * (j : Int) ≤ (hi : Int) - 1 - (q : Int)) = false := decide_eq_false (by omega)
            have HQ : Sd (q = hi - 4 * j) := ⟨by omega⟩
            have hlen : (L ++ wire_writer_digits.pk s j).length ≤ 1000000 := by rw [List.length_append, wire_writer_digits.pk_len]; omega
            have hcs := wire_writer_digits.cv_small HOK.out hi hh1 q (by omega) (by omega)
            have HCS := Sd.mk hcs
            clear hcs hqlt
            go_wp2_with (go_at_call 46; (with_reducible refine (wire_writer_byte.calls w0 _ HIR.out hlen).mono ?_); rintro e' w2 ⟨⟨u, rfl⟩, hI2, hK2⟩; have HI2 := Sd.mk hI2; have HK2 := Sd.mk hK2; clear hI2 hK2)
            go_roundw
            case rel =>
              refine ⟨j + 1, by omega, by congr 1; first | done | omega, ?_, HKR.out.trans HK2.out⟩
              have h9 := HI2.out
              have h8 := HCS.out
              rw [Int.emod_eq_of_lt h8.1 h8.2, HQ.out] at h9
              rw [wire_writer_digits.pk_succ, HHI.out, ← List.append_assoc]
              exact h9
            case measure => simp [intOf]; first | done | omega
    · have d1 : decide (((4 * j : Nat) : Int) < (s.size : Int)) = false := decide_eq_false (by omega)
      go_wp2
      go_end0
      refine ⟨⟨_, rfl⟩, ?_, HKR.out⟩
      obtain rfl : j = (s.size + 3) / 4 := by omega
      exact HIR.out
end Go.Proofs.Ytbfnkdgjcpcmbaa.X
