/- A byte that is another one makes another sum; sums of what is mixed bit by bit. -/
import Derived.Test.YtofabmdndoaegaaCrcLib3
import Derived.Test.YtofabmdndoaegaaXx3
set_option linter.unusedVariables false
set_option linter.unusedSimpArgs false
namespace Go.Proofs.Ytofabmdndoaegaa.CrcLib
open Go.RowKit Go.Proofs.Ytofabmdndoaegaa.X Go.Proofs.YtofabmdndoaegaaW.PrintWords Go.Proofs.Ytofabmdndoaegaa.Bytes
theorem known60 : bellwetherlaw02_known.f 60 = some true := by decide +kernel
theorem known_at {k : Nat} (hk : 60 ≤ k) : bellwetherlaw02_known.f k = some true := at_rounds bellwetherlaw02_known.mono hk known60
theorem xor_cancel {a b c : Nat} (h : a ^^^ c = b ^^^ c) : a = b := by
  have := congrArg (· ^^^ c) h
  simpa [Nat.xor_assoc] using this
theorem high_bit {x y : Nat} (hx : x < 2147483648) (hy : y < 2147483648) : x ≠ y ^^^ 3988292384 := by
  intro h
  have h1 := congrArg (fun n => Nat.testBit n 31) h
  simp only [Nat.testBit_xor] at h1
  rw [Nat.testBit_lt_two_pow (by omega : x < 2 ^ 31), Nat.testBit_lt_two_pow (by omega : y < 2 ^ 31)] at h1
  exact absurd h1 (by decide)
theorem g_inj {a b : Nat} (ha : a < 4294967296) (hb : b < 4294967296) (h : g a = g b) : a = b := by
  unfold g at h
  split at h <;> split at h
  · omega
  · exact absurd h (high_bit (by omega) (by omega))
  · exact absurd h.symm (high_bit (by omega) (by omega))
  · have := xor_cancel h
    omega
theorem gs_inj : ∀ (d : Nat) {a b : Nat}, a < 4294967296 → b < 4294967296 → gs d a = gs d b → a = b
  | 0, _, _, _, _, h => h
  | d + 1, _, _, ha, hb, h => g_inj ha hb (gs_inj d (g_lt ha) (g_lt hb) h)
theorem st_inj_left {s t b : Nat} (hs : s < 4294967296) (ht : t < 4294967296) (hb : b < 4294967296) (h : st s b = st t b) : s = t :=
  xor_cancel (gs_inj 8 (xor_lt32 hs hb) (xor_lt32 ht hb) h)
theorem st_inj_right {s b c : Nat} (hs : s < 4294967296) (hb : b < 4294967296) (hc : c < 4294967296) (h : st s b = st s c) : b = c := by
  have := gs_inj 8 (xor_lt32 hs hb) (xor_lt32 hs hc) h
  rw [Nat.xor_comm s b, Nat.xor_comm s c] at this
  exact xor_cancel this
theorem b32 (b : UInt8) : b.toNat < 4294967296 := by have := b.toNat_lt; omega
theorem run_append (s : Nat) (l m : List UInt8) : run s (l ++ m) = run (run s l) m := by simp [run, List.foldl_append]
theorem run_inj : ∀ (l : List UInt8) {s t : Nat}, s < 4294967296 → t < 4294967296 → run s l = run t l → s = t
  | [], _, _, _, _, h => h
  | b :: l, _, _, hs, ht, h => st_inj_left hs ht (b32 b) (run_inj l (st_lt hs (b32 b)) (st_lt ht (b32 b)) h)
theorem crc_other (l m : List UInt8) (b c : UInt8) (h : b ≠ c) : crc (l ++ b :: m) ≠ crc (l ++ c :: m) := by
  intro e
  have h1 := xor_cancel e
  rw [run_append, run_append] at h1
  have hr := run_lt l (s := 4294967295) (by omega)
  have h2 := run_inj m (st_lt hr (b32 b)) (st_lt hr (b32 c)) h1
  have h3 := st_inj_right hr (b32 b) (b32 c) h2
  exact h (UInt8.toNat_inj.1 h3)
theorem four_inj {c d : Nat} (hc : c < 4294967296) (hd : d < 4294967296) (h : four c = four d) : c = d := by
  have key : ∀ m n : Nat, m < 256 → n < 256 → UInt8.ofNat m = UInt8.ofNat n → m = n := fun m n hm hn e => by
    have := congrArg UInt8.toNat e
    rw [UInt8.toNat_ofNat', UInt8.toNat_ofNat'] at this
    omega
  simp only [four, List.cons.injEq, and_true] at h
  have h0 := key _ _ (by omega) (by omega) h.1
  have h1 := key _ _ (by omega) (by omega) h.2.1
  have h2 := key _ _ (by omega) (by omega) h.2.2.1
  have h3 := key _ _ (by omega) (by omega) h.2.2.2
  omega
theorem g_xor {a b : Nat} : g (a ^^^ b) = g a ^^^ g b := by
  have hd : (a ^^^ b) / 2 = a / 2 ^^^ b / 2 := by
    have := Nat.shiftRight_xor_distrib (a := a) (b := b) (i := 1)
    simpa [Nat.shiftRight_eq_div_pow] using this
  have hm : (a ^^^ b) % 2 = (a % 2) ^^^ (b % 2) := Nat.xor_mod_two_pow (a := a) (b := b) (n := 1)
  unfold g
  rw [hd, hm]
  rcases Nat.mod_two_eq_zero_or_one a with ha | ha <;> rcases Nat.mod_two_eq_zero_or_one b with hb | hb <;> simp [ha, hb]
  · ac_rfl
  · ac_rfl
  · rw [show a / 2 ^^^ 3988292384 ^^^ (b / 2 ^^^ 3988292384) = (a / 2 ^^^ b / 2) ^^^ (3988292384 ^^^ 3988292384) by ac_rfl, Nat.xor_self, Nat.xor_zero]
theorem gs_xor : ∀ (d : Nat) {a b : Nat}, gs d (a ^^^ b) = gs d a ^^^ gs d b
  | 0, _, _ => rfl
  | d + 1, a, b => by
    show gs d (g (a ^^^ b)) = gs d (g a) ^^^ gs d (g b)
    rw [g_xor, gs_xor d]
theorem st_xor (s t a b : Nat) : st (s ^^^ t) (a ^^^ b) = st s a ^^^ st t b := by
  unfold st
  rw [← gs_xor]
  congr 1
  rw [Nat.xor_assoc, Nat.xor_assoc, ← Nat.xor_assoc t, ← Nat.xor_assoc a, Nat.xor_comm t a]
/-- Of three lists what is theirs together, bit by bit. -/
def mixed : List UInt8 → List UInt8 → List UInt8 → List UInt8
  | a :: l, b :: m, c :: n => (a ^^^ b ^^^ c) :: mixed l m n
  | _, _, _ => []
theorem run_mixed : ∀ (l m n : List UInt8) (s t u : Nat), l.length = m.length → l.length = n.length → run (s ^^^ t ^^^ u) (mixed l m n) = run s l ^^^ run t m ^^^ run u n
  | [], [], [], _, _, _, _, _ => rfl
  | a :: l, b :: m, c :: n, s, t, u, h1, h2 => by
    show run (st (s ^^^ t ^^^ u) (a ^^^ b ^^^ c).toNat) (mixed l m n) = run (st s a.toNat) l ^^^ run (st t b.toNat) m ^^^ run (st u c.toNat) n
    rw [UInt8.toNat_xor, UInt8.toNat_xor, st_xor, st_xor]
    exact run_mixed l m n _ _ _ (by simpa using h1) (by simpa using h2)
  | [], _ :: _, _, _, _, _, h, _ => by simp at h
  | [], [], _ :: _, _, _, _, _, h => by simp at h
  | _ :: _, [], _, _, _, _, h, _ => by simp at h
  | _ :: _, _ :: _, [], _, _, _, _, h => by simp at h
theorem crc_mixed (l m n : List UInt8) (h1 : l.length = m.length) (h2 : l.length = n.length) : crc (mixed l m n) = crc l ^^^ crc m ^^^ crc n := by
  have e : (4294967295 : Nat) = 4294967295 ^^^ 4294967295 ^^^ 4294967295 := by decide
  unfold crc
  have := run_mixed l m n 4294967295 4294967295 4294967295 h1 h2
  rw [← e] at this
  rw [this]
  generalize run 4294967295 l = x
  generalize run 4294967295 m = y
  generalize run 4294967295 n = z
  have hx : (x ^^^ 4294967295) ^^^ (y ^^^ 4294967295) = x ^^^ y := by
    rw [show (x ^^^ 4294967295) ^^^ (y ^^^ 4294967295) = (x ^^^ y) ^^^ (4294967295 ^^^ 4294967295) by ac_rfl, Nat.xor_self, Nat.xor_zero]
  rw [hx, Nat.xor_assoc]
end Go.Proofs.Ytofabmdndoaegaa.CrcLib
