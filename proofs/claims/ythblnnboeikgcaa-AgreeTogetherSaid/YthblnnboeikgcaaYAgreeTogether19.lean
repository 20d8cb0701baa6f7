import Derived.Test.YthblnnboeikgcaaYAgreeTogether18
set_option maxHeartbeats 1000000
section
namespace Go.Proofs.Ythblnnboeikgcaa.X
open Go.RowKit Go.Proofs.YthblnnboeikgcaaW.PrintWords Go.Proofs.YthblnnboeikgcaaW.PrintLast Go.Proofs.YthblnnboeikgcaaW.PrintMore
attribute [local go_sem] max2_int min2_int max_two min_two max_three min_three max_four min_four   -- for this text's walks alone
set_option linter.unusedVariables false
set_option linter.unusedSimpArgs false
def vec_Of_1.digit (b : Int) : Int := if b = 49 then 1 else 0
theorem vec_Of_1.range (b : Int) : 0 ≤ vec_Of_1.digit b ∧ vec_Of_1.digit b ≤ 1 := by unfold vec_Of_1.digit; split <;> omega
theorem vec_Of_1.set_at (b : Int) : vec_set.f b = some (vec_Of_1.digit b) := by
  unfold vec_set.f vec_Of_1.digit
  split <;> rfl
theorem vec_Of_1.start_at (b : Int) : king_Start.f (vec_Of_1.digit b) = some (vec_Of_1.digit b, false) := by
  unfold king_Start.f vec_Of_1.digit
  by_cases h : b = 49
  · rw [if_pos h, if_pos rfl]
  · rw [if_neg h, if_neg (by decide)]
theorem vec_Of_1.code_at (b : Int) : king_Code.f (vec_Of_1.digit b) false = some (vec_Of_1.digit b) := by
  have h := vec_Of_1.range b
  unfold king_Code.f king_value.f
  rw [if_neg (by omega), if_neg (by omega)]
  rfl
theorem vec_Of_1.calls (j b : Int) (w : World) : Calls Try.prog 114 #[.int .i64 j, .int .u8 b] w fun e w' => e = .returned (.int .i64 (vec_Of_1.digit b)) ∧ Below w.heap.size w w' := by
  have H1 := Sd.mk (vec_Of_1.set_at b)
  have H2 := Sd.mk (vec_Of_1.start_at b)
  have H3 := Sd.mk (vec_Of_1.code_at b)
  generalize vec_Of_1.digit b = y at H1 H2 H3 ⊢
  go_enter Try.func114, Try.ntmps114
  go_wp2_with (first
    | (go_at_call 115; (with_reducible refine (vec_set.calls b y _ H1.out).mono ?_); rintro e1 w1 ⟨rfl, hd⟩; have B1 := Sd.mk (Drawn0.below hd); clear hd)
    | (go_at_call 89; (with_reducible refine (king_Start.calls y y false _ H2.out).mono ?_); rintro e2 w2 ⟨rfl, hb⟩; have B2 := Sd.mk (below_step B1.out hb); clear hb)
    | (go_at_call 88; (with_reducible refine (king_Code.calls y false y _ H3.out).mono ?_); rintro e3 w3 ⟨rfl, hb⟩; have B3 := Sd.mk (below_step B2.out hb); clear hb))
  go_ret
  exact ⟨rfl, B3.out⟩
end Go.Proofs.Ythblnnboeikgcaa.X
end
section
namespace Go.Proofs.Ythblnnboeikgcaa.X
open Go.RowKit Go.Proofs.YthblnnboeikgcaaW.PrintWords Go.Proofs.YthblnnboeikgcaaW.PrintLast Go.Proofs.YthblnnboeikgcaaW.PrintMore
attribute [local go_sem] max2_int min2_int max_two min_two max_three min_three max_four min_four   -- for this text's walks alone
set_option linter.unusedVariables false
set_option linter.unusedSimpArgs false
def vec_Of.digits (s : ByteArray) : List Int := (List.range s.size).map (fun (j : Nat) => vec_Of_1.digit (bt s (j : Int)))
def vec_Of.f (a0 : ByteArray) : Option (ByteArray) := if a0.size ≤ 140737488351232 then some (strOfNums ((vec_Of.digits a0).map (fun d => 48 + d))) else none
theorem vec_Of.calls (a0 : ByteArray) (r : ByteArray) (w : World) (h : vec_Of.f a0 = some r) :
    Calls Try.prog 60 #[.string a0] w fun e w' => e = .returned (.string r) ∧ Below w.heap.size w w' := by
  unfold vec_Of.f at h
  by_cases d1 : a0.size ≤ 140737488351232
  · rw [if_pos d1] at h
    obtain rfl := Option.some.inj h
    have hl : (vec_Of.digits a0).length = a0.size := by simp [vec_Of.digits]
    have hg : ∀ j, j < a0.size → (vec_Of.digits a0).getD j 0 = vec_Of_1.digit (bt a0 (j : Int)) := fun j hj => KW.getD_range _ 0 hj
    have HE := Sd.mk (vec_each.calls_Of a0 (vec_Of.digits a0) (fun W => Below w.heap.size w W) w hl d1 (fun j hj => by rw [hg j hj]; have := vec_Of_1.range (bt a0 (j : Int)); omega)
      (fun W W1 h hs hb => h.trans hb) (fun j W hj hJ hS => (vec_Of_1.calls (j : Int) (bt a0 (j : Int)) W).mono fun e W' h => ⟨by rw [h.1, hg j hj], below_step hJ h.2, h.2.size, fun k _ hk => h.2.block k hk⟩) (Below.refl _ _))
    clear h hl hg
    generalize strOfNums ((vec_Of.digits a0).map (fun d => 48 + d)) = S at HE ⊢
    go_enter Try.func60, Try.ntmps60
    go_wp2_with (go_at_call 106; (with_reducible refine HE.out.mono ?_); rintro e1 w1 ⟨rfl, hb⟩; have B1 := Sd.mk hb; clear hb)
    go_ret
    exact ⟨rfl, B1.out⟩
  · rw [if_neg d1] at h
    cases h
end Go.Proofs.Ythblnnboeikgcaa.X
end
