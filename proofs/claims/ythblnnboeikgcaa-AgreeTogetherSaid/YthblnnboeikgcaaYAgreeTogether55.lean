/-
  The statement Rows.AgreeTogetherSaid: for every input that can be read as data the Go function answers true, and each argument reads afterwards as it did.
  Conditions: none but the row's own.
-/
import Derived.Test.YthblnnboeikgcaaRows
import Derived.Test.YthblnnboeikgcaaYAgreeTogether54
set_option maxRecDepth 100000
namespace Go.Proofs.Ythblnnboeikgcaa.agreeTogether
open Go.ChangeShapes Go.WideShapes Go.ChangeAt Go.RowKit Go.Proofs.Ythblnnboeikgcaa.X Go.Proofs.YthblnnboeikgcaaW.PrintWords
set_option linter.unusedVariables false
theorem own : ownKnob Try.prog.godebug = none := by kernel_rfl
theorem laidOut : laidOutB Try.prog = true := by kernel_rfl
theorem lifted (os : Os) (started : os.Started) (H : Type) (enc : TypeId × Value → H) :
    ReturnsInHanded {} Try.checked os 5 .any (Rows.agreeTogetherSpec.pre6 enc Try.prog Try.f5 Rows.agreeTogetherRow.domain false) (Rows.agreeTogetherSpec.post enc Try.prog Try.f5 false true false false) := by
  refine returnsInHanded_of_change_sized (C := Try.checked) own started (by kernel_rfl) Try.func5
    (ChangeSpec.witness6 (enc := enc) (C := Try.checked) false ⟨#[], #[.agg #[.int .i64 0, .int .i64 0, .int .i64 0, .int .i64 0, .int .i64 0, .int .i64 0, .int .i64 0, .int .i64 0, .int .i64 0, .int .i64 0, .slice none 0 0, .slice none 0 0, .slice none 0 0, .slice none 0 0, .slice none 0 0]], []⟩ 16 (by kernel_rfl) (by kernel_rfl) (by kernel_rfl) (by kernel_rfl)) ?_
  intro W base args ds gs before hval0 hW hcnd hsz0 _
  have hsz : (DataW.weightsEach Try.prog (Try.f5.params.toList ++ Rows.agreeTogetherSpec.plain.varTypes Try.prog) (ds ++ gs)).all (· ≤ reachBytes) = true := hsz0
  have hval : ∀ (j : Nat) t v, Try.f5.params[j]? = some t → args[j]? = some v → Value.okWide Try.prog W .any base t v := hval0
  have hW' := hW
  obtain ⟨p, q, hA0, hV, rfl, hfz, hnd⟩ := hW
  have hA : DataW.TrodAll enc Try.prog W 0 (fun _ => true) true Try.f5.params.toList args.toList ds p := hA0
  rw [Try.params5] at hA hval hsz
  obtain ⟨v0, vs0, d0, ds0, p0, q0, hargs, rfl, rfl, h0, r0⟩ := trodAll_cons hA
  obtain ⟨rfl, rfl, rfl⟩ := trodAll_nil r0
  obtain rfl : args = #[v0] := by cases args; simp_all
  obtain ⟨rfl, rfl⟩ := trodVars_none hV
  obtain ⟨cs0, rfl, _⟩ := okWide_struct Try.underlying39 (hval 0 39 v0 rfl rfl)
  have k0 := h0
  have lt0 : ∀ x ∈ p0, x.block < W.heap.size := by obtain ⟨m, hm⟩ := k0; exact DataW.trod_lt m _ _ _ hm
  obtain ⟨fu0, hf0⟩ := h0
  obtain ⟨x0, hK0, hI0⟩ := op39.get hf0 (weights_small hsz (j := 0) rfl rfl)
  have o0 := k39_open hK0
  obtain ⟨B0_10, c0_10, B0_11, c0_11, B0_12, c0_12, B0_13, c0_13, B0_14, c0_14, e0, hc0_10, hr0_10, hc0_11, hr0_11, hc0_12, hr0_12, hc0_13, hr0_13, hc0_14, hr0_14⟩ := o0
  obtain rfl : cs0 = #[.int .i64 x0.f0.f0, .int .i64 x0.f0.f1, .int .i64 x0.f0.f2, .int .i64 x0.f0.f3, .int .i64 x0.f0.f4, .int .i64 x0.f0.f5, .int .i64 x0.f0.f6, .int .i64 x0.f0.f7, .int .i64 x0.f0.f8, .int .i64 x0.f0.f9, .slice B0_10 x0.f0.f10.length c0_10, .slice B0_11 x0.f1.length c0_11, .slice B0_12 x0.f2.length c0_12, .slice B0_13 x0.f3.length c0_13, .slice B0_14 x0.f4.length c0_14] := by have e_ : cs0.toList = _ := e0; exact Array.toList_inj.1 e_
  clear hA0 hval0 hsz0 hsz
  obtain ⟨k, h⟩ := pure x0 hI0
  refine (l19AgreeTogether.calls k x0.f0.f0 x0.f0.f1 x0.f0.f2 x0.f0.f3 x0.f0.f4 x0.f0.f5 x0.f0.f6 x0.f0.f7 x0.f0.f8 x0.f0.f9 _ _ x0.f0.f10 _ _ x0.f1 _ _ x0.f2 _ _ x0.f3 _ _ x0.f4 true W hr0_10 hc0_10 hr0_11 hc0_11 hr0_12 hc0_12 hr0_13 hc0_13 hr0_14 hc0_14 h).mono fun e W' ⟨he, bel0⟩ => ?_
  have bel : Below W.heap.size W W' := bel0
  subst he
  exact ⟨_, rfl, _, _, _, [], _, [], hW', trodAll_mk1 (shut_bool Try.underlying4 _), (trodAll_cons_mk (Below.trod laidOut (by kernel_rfl) (of_decide_eq_true (by kernel_rfl)) k0 bel lt0) trodAll_mk0), rfl, bel.frame _, fun h => by cases h⟩
theorem over : Rows.agreeTogetherRow.holds Try.pinned (OpenSpec.ofChange Rows.agreeTogetherSpec) :=
  OpenClaim.holds_of_wide 5 Try.f5 rfl rfl rfl rfl rfl rfl rfl ⟨rfl, rfl, rfl, rfl, rfl⟩ rfl rfl rfl rfl rfl (by kernel_rfl) Try.func5 (by kernel_rfl)
    (of_decide_eq_true (by kernel_rfl)) (by unfold Func.isWrapper; first | (rw [if_pos (by decide +kernel)]; kernel_rfl) | (rw [if_neg (by decide +kernel)]; exact ⟨rfl, rfl⟩))
    (fun os started H enc _ => lifted os started H enc)
end Go.Proofs.Ythblnnboeikgcaa.agreeTogether
namespace Go.Proofs.Ythblnnboeikgcaa
theorem agreeTogether_holds : Rows.AgreeTogetherSaid := agreeTogether.over
end Go.Proofs.Ythblnnboeikgcaa
#print axioms Go.Proofs.Ythblnnboeikgcaa.agreeTogether_holds
