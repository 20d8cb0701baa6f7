import Derived.Test.YthblnnboeikgcaaYBeatSteps30
set_option maxHeartbeats 1000000
section
namespace Go.Proofs.Ythblnnboeikgcaa.B
open Go.RowKit Go.Proofs.YthblnnboeikgcaaW.PrintWords Go.Proofs.YthblnnboeikgcaaW.PrintLast Go.Proofs.YthblnnboeikgcaaW.PrintMore
attribute [local go_sem] max2_int min2_int max_two min_two max_three min_three max_four min_four   -- for this text's walks alone
set_option linter.unusedVariables false
set_option linter.unusedSimpArgs false
def vec_Values_1.digit (b : Int) : Int := if b < 48 ∨ 53 < b then 2 else (b - 48) % 3
def vec_Values_1.strong (b : Int) : Bool := if b < 48 ∨ 53 < b then false else decide (51 ≤ b)
theorem vec_Values_1.range (b : Int) : 0 ≤ vec_Values_1.digit b ∧ vec_Values_1.digit b ≤ 2 := by unfold vec_Values_1.digit; split <;> omega
theorem vec_Values_1.read_at (b : Int) (h0 : 0 ≤ b) (h1 : b ≤ 255) : vec_read.f b = some (vec_Values_1.digit b, vec_Values_1.strong b) := by
  have hw : wrap64 (wrap64 b - 48) = b - 48 := by unfold wrap64; omega
  unfold vec_read.f king_Read.f vec_Values_1.digit vec_Values_1.strong
  rw [hw]
  clear hw
  by_cases d1 : b < 48
  · rw [if_pos (by omega), if_pos (.inl d1), if_pos (.inl d1)]
    rfl
  · by_cases d2 : 53 < b
    · rw [if_neg (by omega), if_pos (by omega), if_pos (.inr d2), if_pos (.inr d2)]
      rfl
    · rw [if_neg (by omega), if_neg (by omega), if_neg (by omega), if_neg (by omega), Int.tmod_eq_emod_of_nonneg (by omega)]
      simp only [Option.bind_some]
      congr 2
      exact decide_eq_decide.2 ⟨fun h => by omega, fun h => by omega⟩
theorem vec_Values_1.fld (v0 v1 : Value) (w : World) : (Instr.field 59 (.agg #[v0, v1]) 0).run Try.prog w = .ok v0 w := by kernel_rfl
theorem vec_Values_1.calls (j b : Int) (w : World) (h0 : 0 ≤ b) (h1 : b ≤ 255) : Calls Try.prog 107 #[.int .i64 j, .int .u8 b] w fun e w' => e = .returned (.int .i64 (vec_Values_1.digit b)) ∧ Below w.heap.size w w' := by
  have H1 := Sd.mk (vec_Values_1.read_at b h0 h1)
  generalize vec_Values_1.digit b = y at H1 ⊢
  generalize vec_Values_1.strong b = z at H1
  have hfld := vec_Values_1.fld (.int .i64 y) (.bool z)
  go_enter Try.func107, Try.ntmps107
  go_wp2_with (go_at_call 108; (with_reducible refine (vec_read.calls b y z _ H1.out).mono ?_); rintro e1 w1 ⟨rfl, hb⟩; have B1 := Sd.mk hb; clear hb)
  go_ret
  exact ⟨rfl, B1.out⟩
end Go.Proofs.Ythblnnboeikgcaa.B
end
section
namespace Go.Proofs.Ythblnnboeikgcaa.B
open Go.RowKit Go.Proofs.YthblnnboeikgcaaW.PrintWords Go.Proofs.YthblnnboeikgcaaW.PrintLast Go.Proofs.YthblnnboeikgcaaW.PrintMore
attribute [local go_sem] max2_int min2_int max_two min_two max_three min_three max_four min_four   -- for this text's walks alone
set_option linter.unusedVariables false
set_option linter.unusedSimpArgs false
def vec_Values.digits (s : ByteArray) : List Int := (List.range s.size).map (fun (j : Nat) => vec_Values_1.digit (bt s (j : Int)))
def vec_Values.f (a0 : ByteArray) : Option (ByteArray) := if a0.size ≤ 140737488351232 then some (strOfNums ((vec_Values.digits a0).map (fun d => 48 + d))) else none
theorem vec_Values.calls (a0 : ByteArray) (r : ByteArray) (w : World) (h : vec_Values.f a0 = some r) :
    Calls Try.prog 56 #[.string a0] w fun e w' => e = .returned (.string r) ∧ Below w.heap.size w w' := by
  unfold vec_Values.f at h
  by_cases d1 : a0.size ≤ 140737488351232
  · rw [if_pos d1] at h
    obtain rfl := Option.some.inj h
    have hl : (vec_Values.digits a0).length = a0.size := by simp [vec_Values.digits]
    have hg : ∀ j, j < a0.size → (vec_Values.digits a0).getD j 0 = vec_Values_1.digit (bt a0 (j : Int)) := fun j hj => KW.getD_range _ 0 hj
    have HE := Sd.mk (vec_each.calls_Values a0 (vec_Values.digits a0) (fun W => Below w.heap.size w W) w hl d1 (fun j hj => by rw [hg j hj]; have := vec_Values_1.range (bt a0 (j : Int)); omega)
      (fun W W1 h hs hb => h.trans hb) (fun j W hj hJ hS => (vec_Values_1.calls (j : Int) (bt a0 (j : Int)) W (bt_range _ _).1 (bt_range _ _).2).mono fun e W' h => ⟨by rw [h.1, hg j hj], below_step hJ h.2, h.2.size, fun k _ hk => h.2.block k hk⟩) (Below.refl _ _))
    clear h hl hg
    generalize strOfNums ((vec_Values.digits a0).map (fun d => 48 + d)) = S at HE ⊢
    go_enter Try.func56, Try.ntmps56
    go_wp2_with (go_at_call 106; (with_reducible refine HE.out.mono ?_); rintro e1 w1 ⟨rfl, hb⟩; have B1 := Sd.mk hb; clear hb)
    go_ret
    exact ⟨rfl, B1.out⟩
  · rw [if_neg d1] at h
    cases h
end Go.Proofs.Ythblnnboeikgcaa.B
end
