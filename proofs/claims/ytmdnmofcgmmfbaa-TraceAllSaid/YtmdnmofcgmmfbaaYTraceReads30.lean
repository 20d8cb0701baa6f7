import Derived.Test.YtmdnmofcgmmfbaaYTraceReads14
import Derived.Test.YtmdnmofcgmmfbaaYTraceReads21
import Derived.Test.YtmdnmofcgmmfbaaYTraceReads23
import Derived.Test.YtmdnmofcgmmfbaaYTraceReads27
import Derived.Test.YtmdnmofcgmmfbaaYTraceReads28
import Derived.Test.YtmdnmofcgmmfbaaYTraceReads29
set_option maxHeartbeats 8000000
set_option maxRecDepth 100000
namespace Go.Proofs.Ytmdnmofcgmmfbaa.T
open Go.RowKit Go.Proofs.YtmdnmofcgmmfbaaW.PrintWords Go.Proofs.YtmdnmofcgmmfbaaW.PrintLast Go.Proofs.YtmdnmofcgmmfbaaW.PrintMore
attribute [local go_sem] max2_int min2_int max_two min_two max_three min_three max_four min_four   -- for this text's walks alone
set_option linter.unusedVariables false
set_option linter.unusedSimpArgs false
theorem q30V {A B : Prop} (h : A) (q : A → B := by intro h_; (with_reducible repeat (first | apply Kd.V_alloc | apply Kd.V_drewN | apply Kd.V_drew)); exact h_) : B := q h
theorem q30N {A B : Prop} (h : A) (q : A → B := by intro h_; (with_reducible repeat (first | apply Kd.N_alloc | apply Kd.N_drewN | apply Kd.N_drew)); exact h_) : B := q h
theorem q30R {A B : Prop} (h : A) (q : A → B := by intro h_; (with_reducible repeat (first | apply Kd.R_alloc | apply Kd.R_drewN | apply Kd.R_drew)); exact h_) : B := q h
def l36known.f (k : Nat)  : Option (Bool) := (some (([(([(⟨true, false, 7, 0, (⟨#[]⟩ : ByteArray), 0, ([] : List (S53))⟩ : S28)] : List (S28))), (([(⟨false, false, 0, 0, (⟨#[]⟩ : ByteArray), 2, (([(⟨1, 0, 0, (⟨#[97]⟩ : ByteArray)⟩ : S53)] : List (S53)))⟩ : S28)] : List (S28))), (([(⟨true, false, 8, 0, (⟨#[]⟩ : ByteArray), 0, ([] : List (S53))⟩ : S28)] : List (S28))), (([] : List (S28)))] : List (List (S28))) : List (List (S28)))).bind fun y134 => ((trace_At.f y134 1 0).bind fun bt137 => (if bt137.2.2.2.2.2.1 = 2 then ((trace_At.f y134 3 0).bind fun bt146 => (if bt146.2.2.2.2.2.1 = 0 then ((trace_Pulses.f y134 0).bind fun t155 => ((r06Ints.f k t155 (([0, 2] : List Int))).bind fun t161 => (if t161 = true then ((trace_Sent.f y134 0).bind fun t162 => ((r06Ints.f k t162 (([1] : List Int))).bind fun t168 => (if t168 = true then ((trace_Got.f y134 0 0 2).bind fun t169 => ((r24Same.f k t169 (([(⟨1, 0, 0, (⟨#[97]⟩ : ByteArray)⟩ : S53)] : List (S53)))).bind fun t175 => (if t175 = true then ((trace_Cycles.f y134 0).bind fun t176 => ((r36Same.f k t176 (([(⟨0, 7, (⟨#[]⟩ : ByteArray), false, (([(⟨1, 0, 0, (⟨#[97]⟩ : ByteArray)⟩ : S53)] : List (S53)))⟩ : S40), (⟨2, 8, (⟨#[]⟩ : ByteArray), false, ([] : List (S53))⟩ : S40)] : List (S40)))).bind fun t185 => (some t185))) else (some false)))) else (some false)))) else (some false)))) else (some false))) else (some false)))
theorem l36known.mono : ∀ k, LeO (l36known.f k ) (l36known.f (k + 1) ) := by
 intro  k
 unfold l36known.f
 repeat' first
   | (with_reducible exact r06Ints.mono _ _ _)
   | (with_reducible exact r24Same.mono _ _ _)
   | (with_reducible exact r36Same.mono _ _ _)
   | (with_reducible exact LeO.refl _)
   | (with_reducible exact LeO.none _)
   | (with_reducible refine LeO.ite ?_ ?_)
   | (with_reducible refine LeO.bind ?_ (fun _ => ?_))
   | exact r06Ints.mono _ _ _
   | exact r24Same.mono _ _ _
   | exact r36Same.mono _ _ _
   | exact LeO.none _
   | refine LeO.ite ?_ ?_
   | refine LeO.bind ?_ (fun _ => ?_)
theorem l36known.fld28_5 (v0 v1 v2 v3 v4 v5 v6 : Value) (w : World) : (Instr.field 28 (.agg #[v0, v1, v2, v3, v4, v5, v6]) 5).run Try.prog w = .ok (v5) w := by kernel_rfl
attribute [local go_sem] l36known.fld28_5
def l36known.T3 : Bool × List (List Nat × List Nat) := (true, [([], []), ([0], [0]), ([1], [1]), ([2], [2]), ([3, 1], [3]), ([4], [4]), ([5, 4, 4], [4, 5]), ([6, 4], [4, 6]), ([7, 4], [4, 7]), ([4, 8], [4, 8]), ([9, 6], [9]), ([10], [10]), ([11, 10, 10], [10, 11]), ([10], [10]), ([12, 13, 12, 10], [10, 12, 13]), ([10, 14], [10, 14]), ([15, 14], [15]), ([16], [16]), ([17, 16, 16], [16, 17]), ([16], [16]), ([18, 19, 18, 16], [16, 18, 19]), ([16, 20], [16, 20]), ([21, 20], [21]), ([22], [22]), ([23, 22, 22], [22, 23]), ([22], [22]), ([25, 22], [22, 25]), ([24, 26, 24, 22], [22, 24, 26]), ([22, 27], [22, 27]), ([28, 27], [28]), ([29], [29]), ([30, 29, 29], [29, 30]), ([29], [29]), ([32, 29], [29, 32]), ([33, 29], [29, 33]), ([29], [29]), ([34, 35, 29], [29, 34, 35]), ([31, 36, 31, 29], [29, 31, 36]), ([29, 37], [29, 37]), ([38, 37, 0, 1, 2, 3, 4, 5, 6, 7, 8, 9, 10, 11, 12, 13, 14, 15, 16, 17, 18, 19, 20, 21, 22, 23, 24, 25, 26, 27, 28, 29, 30, 31, 32, 33, 34, 35, 36, 37, 38], [38])])
def l36known.B3 : List Nat := [0, 1, 3, 7, 15, 31, 63, 127, 255, 511, 1023, 2047, 4095, 2047, 16383, 32767, 65535, 131071, 262143, 131071, 1048575, 2097151, 4194303, 8388607, 16777215, 8388607, 41943039, 134217727, 268435455, 536870911, 1073741823, 2147483647, 1073741823, 5368709119, 13958643711, 1073741823, 65498251263, 137438953471, 274877906943, 549755813887]
theorem l36known.tab3 : rtab .any (opsOf Try.f10 3) = l36known.T3 := by kernel_rfl
theorem l36known.bits3 : waitsOk l36known.T3.2 l36known.B3 = true := by kernel_rfl
theorem l36known.calls (k : Nat)  (r : Bool) (w : World) (h : l36known.f k  = some r) (hT : Sd (r = true) := by first | exact ⟨rfl⟩ | assumption) :
  Calls Try.prog 10 #[] w fun e w' => e = .returned (.bool r) ∧ Below w.heap.size w w' := by
 have hu53 := Try.underlying53
 have hu28 := Try.underlying28
 have hu40 := Try.underlying40
 have HB := Sd.mk (Below.refl w.heap.size w)
 have H : ((some (([(([(⟨true, false, 7, 0, (⟨#[]⟩ : ByteArray), 0, ([] : List (S53))⟩ : S28)] : List (S28))), (([(⟨false, false, 0, 0, (⟨#[]⟩ : ByteArray), 2, (([(⟨1, 0, 0, (⟨#[97]⟩ : ByteArray)⟩ : S53)] : List (S53)))⟩ : S28)] : List (S28))), (([(⟨true, false, 8, 0, (⟨#[]⟩ : ByteArray), 0, ([] : List (S53))⟩ : S28)] : List (S28))), (([] : List (S28)))] : List (List (S28))) : List (List (S28)))).bind fun y134 => ((trace_At.f y134 1 0).bind fun bt137 => (if bt137.2.2.2.2.2.1 = 2 then ((trace_At.f y134 3 0).bind fun bt146 => (if bt146.2.2.2.2.2.1 = 0 then ((trace_Pulses.f y134 0).bind fun t155 => ((r06Ints.f k t155 (([0, 2] : List Int))).bind fun t161 => (if t161 = true then ((trace_Sent.f y134 0).bind fun t162 => ((r06Ints.f k t162 (([1] : List Int))).bind fun t168 => (if t168 = true then ((trace_Got.f y134 0 0 2).bind fun t169 => ((r24Same.f k t169 (([(⟨1, 0, 0, (⟨#[97]⟩ : ByteArray)⟩ : S53)] : List (S53)))).bind fun t175 => (if t175 = true then ((trace_Cycles.f y134 0).bind fun t176 => ((r36Same.f k t176 (([(⟨0, 7, (⟨#[]⟩ : ByteArray), false, (([(⟨1, 0, 0, (⟨#[97]⟩ : ByteArray)⟩ : S53)] : List (S53)))⟩ : S40), (⟨2, 8, (⟨#[]⟩ : ByteArray), false, ([] : List (S53))⟩ : S40)] : List (S40)))).bind fun t185 => (some t185))) else (some false)))) else (some false)))) else (some false)))) else (some false))) else (some false)))) = some r := h
 clear h
 obtain ⟨y119, hy119⟩ : ∃ y_ : List (S28), y_ = (([(⟨true, false, 7, 0, (⟨#[]⟩ : ByteArray), 0, ([] : List (S53))⟩ : S28)] : List (S28))) := ⟨_, rfl⟩
 replace H : ((some (([y119, (([(⟨false, false, 0, 0, (⟨#[]⟩ : ByteArray), 2, (([(⟨1, 0, 0, (⟨#[97]⟩ : ByteArray)⟩ : S53)] : List (S53)))⟩ : S28)] : List (S28))), (([(⟨true, false, 8, 0, (⟨#[]⟩ : ByteArray), 0, ([] : List (S53))⟩ : S28)] : List (S28))), (([] : List (S28)))] : List (List (S28))) : List (List (S28)))).bind fun y134 => ((trace_At.f y134 1 0).bind fun bt137 => (if bt137.2.2.2.2.2.1 = 2 then ((trace_At.f y134 3 0).bind fun bt146 => (if bt146.2.2.2.2.2.1 = 0 then ((trace_Pulses.f y134 0).bind fun t155 => ((r06Ints.f k t155 (([0, 2] : List Int))).bind fun t161 => (if t161 = true then ((trace_Sent.f y134 0).bind fun t162 => ((r06Ints.f k t162 (([1] : List Int))).bind fun t168 => (if t168 = true then ((trace_Got.f y134 0 0 2).bind fun t169 => ((r24Same.f k t169 (([(⟨1, 0, 0, (⟨#[97]⟩ : ByteArray)⟩ : S53)] : List (S53)))).bind fun t175 => (if t175 = true then ((trace_Cycles.f y134 0).bind fun t176 => ((r36Same.f k t176 (([(⟨0, 7, (⟨#[]⟩ : ByteArray), false, (([(⟨1, 0, 0, (⟨#[97]⟩ : ByteArray)⟩ : S53)] : List (S53)))⟩ : S40), (⟨2, 8, (⟨#[]⟩ : ByteArray), false, ([] : List (S53))⟩ : S40)] : List (S40)))).bind fun t185 => (some t185))) else (some false)))) else (some false)))) else (some false)))) else (some false))) else (some false)))) = some r := by first | (rw [hy119]; with_reducible exact H) | (have H2_ := (Option.bind_some _ _).symm.trans H; rw [hy119]; with_reducible exact H2_) | (have H2_ := (Option.bind_some _ _).symm.trans H; with_reducible exact H2_) | with_reducible exact H | (rw [hy119]; exact H) | exact H
 have Ny119 := Sd.mk hy119
 clear hy119
 obtain ⟨y122, hy122⟩ : ∃ y_ : List (S53), y_ = (([(⟨1, 0, 0, (⟨#[97]⟩ : ByteArray)⟩ : S53)] : List (S53))) := ⟨_, rfl⟩
 replace H : ((some (([y119, (([(⟨false, false, 0, 0, (⟨#[]⟩ : ByteArray), 2, y122⟩ : S28)] : List (S28))), (([(⟨true, false, 8, 0, (⟨#[]⟩ : ByteArray), 0, ([] : List (S53))⟩ : S28)] : List (S28))), (([] : List (S28)))] : List (List (S28))) : List (List (S28)))).bind fun y134 => ((trace_At.f y134 1 0).bind fun bt137 => (if bt137.2.2.2.2.2.1 = 2 then ((trace_At.f y134 3 0).bind fun bt146 => (if bt146.2.2.2.2.2.1 = 0 then ((trace_Pulses.f y134 0).bind fun t155 => ((r06Ints.f k t155 (([0, 2] : List Int))).bind fun t161 => (if t161 = true then ((trace_Sent.f y134 0).bind fun t162 => ((r06Ints.f k t162 (([1] : List Int))).bind fun t168 => (if t168 = true then ((trace_Got.f y134 0 0 2).bind fun t169 => ((r24Same.f k t169 (([(⟨1, 0, 0, (⟨#[97]⟩ : ByteArray)⟩ : S53)] : List (S53)))).bind fun t175 => (if t175 = true then ((trace_Cycles.f y134 0).bind fun t176 => ((r36Same.f k t176 (([(⟨0, 7, (⟨#[]⟩ : ByteArray), false, (([(⟨1, 0, 0, (⟨#[97]⟩ : ByteArray)⟩ : S53)] : List (S53)))⟩ : S40), (⟨2, 8, (⟨#[]⟩ : ByteArray), false, ([] : List (S53))⟩ : S40)] : List (S40)))).bind fun t185 => (some t185))) else (some false)))) else (some false)))) else (some false)))) else (some false))) else (some false)))) = some r := by first | (rw [hy122]; with_reducible exact H) | (have H2_ := (Option.bind_some _ _).symm.trans H; rw [hy122]; with_reducible exact H2_) | (have H2_ := (Option.bind_some _ _).symm.trans H; with_reducible exact H2_) | with_reducible exact H | (rw [hy122]; exact H) | exact H
 have Ny122 := Sd.mk hy122
 clear hy122
 obtain ⟨y125, hy125⟩ : ∃ y_ : List (S28), y_ = (([(⟨false, false, 0, 0, (⟨#[]⟩ : ByteArray), 2, y122⟩ : S28)] : List (S28))) := ⟨_, rfl⟩
 replace H : ((some (([y119, y125, (([(⟨true, false, 8, 0, (⟨#[]⟩ : ByteArray), 0, ([] : List (S53))⟩ : S28)] : List (S28))), (([] : List (S28)))] : List (List (S28))) : List (List (S28)))).bind fun y134 => ((trace_At.f y134 1 0).bind fun bt137 => (if bt137.2.2.2.2.2.1 = 2 then ((trace_At.f y134 3 0).bind fun bt146 => (if bt146.2.2.2.2.2.1 = 0 then ((trace_Pulses.f y134 0).bind fun t155 => ((r06Ints.f k t155 (([0, 2] : List Int))).bind fun t161 => (if t161 = true then ((trace_Sent.f y134 0).bind fun t162 => ((r06Ints.f k t162 (([1] : List Int))).bind fun t168 => (if t168 = true then ((trace_Got.f y134 0 0 2).bind fun t169 => ((r24Same.f k t169 (([(⟨1, 0, 0, (⟨#[97]⟩ : ByteArray)⟩ : S53)] : List (S53)))).bind fun t175 => (if t175 = true then ((trace_Cycles.f y134 0).bind fun t176 => ((r36Same.f k t176 (([(⟨0, 7, (⟨#[]⟩ : ByteArray), false, (([(⟨1, 0, 0, (⟨#[97]⟩ : ByteArray)⟩ : S53)] : List (S53)))⟩ : S40), (⟨2, 8, (⟨#[]⟩ : ByteArray), false, ([] : List (S53))⟩ : S40)] : List (S40)))).bind fun t185 => (some t185))) else (some false)))) else (some false)))) else (some false)))) else (some false))) else (some false)))) = some r := by first | (rw [hy125]; with_reducible exact H) | (have H2_ := (Option.bind_some _ _).symm.trans H; rw [hy125]; with_reducible exact H2_) | (have H2_ := (Option.bind_some _ _).symm.trans H; with_reducible exact H2_) | with_reducible exact H | (rw [hy125]; exact H) | exact H
 have Ny125 := Sd.mk hy125
 clear hy125
 obtain ⟨y128, hy128⟩ : ∃ y_ : List (S28), y_ = (([(⟨true, false, 8, 0, (⟨#[]⟩ : ByteArray), 0, ([] : List (S53))⟩ : S28)] : List (S28))) := ⟨_, rfl⟩
 replace H : ((some (([y119, y125, y128, (([] : List (S28)))] : List (List (S28))) : List (List (S28)))).bind fun y134 => ((trace_At.f y134 1 0).bind fun bt137 => (if bt137.2.2.2.2.2.1 = 2 then ((trace_At.f y134 3 0).bind fun bt146 => (if bt146.2.2.2.2.2.1 = 0 then ((trace_Pulses.f y134 0).bind fun t155 => ((r06Ints.f k t155 (([0, 2] : List Int))).bind fun t161 => (if t161 = true then ((trace_Sent.f y134 0).bind fun t162 => ((r06Ints.f k t162 (([1] : List Int))).bind fun t168 => (if t168 = true then ((trace_Got.f y134 0 0 2).bind fun t169 => ((r24Same.f k t169 (([(⟨1, 0, 0, (⟨#[97]⟩ : ByteArray)⟩ : S53)] : List (S53)))).bind fun t175 => (if t175 = true then ((trace_Cycles.f y134 0).bind fun t176 => ((r36Same.f k t176 (([(⟨0, 7, (⟨#[]⟩ : ByteArray), false, (([(⟨1, 0, 0, (⟨#[97]⟩ : ByteArray)⟩ : S53)] : List (S53)))⟩ : S40), (⟨2, 8, (⟨#[]⟩ : ByteArray), false, ([] : List (S53))⟩ : S40)] : List (S40)))).bind fun t185 => (some t185))) else (some false)))) else (some false)))) else (some false)))) else (some false))) else (some false)))) = some r := by first | (rw [hy128]; with_reducible exact H) | (have H2_ := (Option.bind_some _ _).symm.trans H; rw [hy128]; with_reducible exact H2_) | (have H2_ := (Option.bind_some _ _).symm.trans H; with_reducible exact H2_) | with_reducible exact H | (rw [hy128]; exact H) | exact H
 have Ny128 := Sd.mk hy128
 clear hy128
 obtain ⟨y131, hy131⟩ : ∃ y_ : List (S28), y_ = (([] : List (S28))) := ⟨_, rfl⟩
 replace H : ((some (([y119, y125, y128, y131] : List (List (S28))) : List (List (S28)))).bind fun y134 => ((trace_At.f y134 1 0).bind fun bt137 => (if bt137.2.2.2.2.2.1 = 2 then ((trace_At.f y134 3 0).bind fun bt146 => (if bt146.2.2.2.2.2.1 = 0 then ((trace_Pulses.f y134 0).bind fun t155 => ((r06Ints.f k t155 (([0, 2] : List Int))).bind fun t161 => (if t161 = true then ((trace_Sent.f y134 0).bind fun t162 => ((r06Ints.f k t162 (([1] : List Int))).bind fun t168 => (if t168 = true then ((trace_Got.f y134 0 0 2).bind fun t169 => ((r24Same.f k t169 (([(⟨1, 0, 0, (⟨#[97]⟩ : ByteArray)⟩ : S53)] : List (S53)))).bind fun t175 => (if t175 = true then ((trace_Cycles.f y134 0).bind fun t176 => ((r36Same.f k t176 (([(⟨0, 7, (⟨#[]⟩ : ByteArray), false, (([(⟨1, 0, 0, (⟨#[97]⟩ : ByteArray)⟩ : S53)] : List (S53)))⟩ : S40), (⟨2, 8, (⟨#[]⟩ : ByteArray), false, ([] : List (S53))⟩ : S40)] : List (S40)))).bind fun t185 => (some t185))) else (some false)))) else (some false)))) else (some false)))) else (some false))) else (some false)))) = some r := by first | (rw [hy131]; with_reducible exact H) | (have H2_ := (Option.bind_some _ _).symm.trans H; rw [hy131]; with_reducible exact H2_) | (have H2_ := (Option.bind_some _ _).symm.trans H; with_reducible exact H2_) | with_reducible exact H | (rw [hy131]; exact H) | exact H
 have Ny131 := Sd.mk hy131
 clear hy131
 obtain ⟨y134, hy134⟩ : ∃ y_ : List (List (S28)), y_ = (([y119, y125, y128, y131] : List (List (S28)))) := ⟨_, rfl⟩
 replace H : ((trace_At.f y134 1 0).bind fun bt137 => (if bt137.2.2.2.2.2.1 = 2 then ((trace_At.f y134 3 0).bind fun bt146 => (if bt146.2.2.2.2.2.1 = 0 then ((trace_Pulses.f y134 0).bind fun t155 => ((r06Ints.f k t155 (([0, 2] : List Int))).bind fun t161 => (if t161 = true then ((trace_Sent.f y134 0).bind fun t162 => ((r06Ints.f k t162 (([1] : List Int))).bind fun t168 => (if t168 = true then ((trace_Got.f y134 0 0 2).bind fun t169 => ((r24Same.f k t169 (([(⟨1, 0, 0, (⟨#[97]⟩ : ByteArray)⟩ : S53)] : List (S53)))).bind fun t175 => (if t175 = true then ((trace_Cycles.f y134 0).bind fun t176 => ((r36Same.f k t176 (([(⟨0, 7, (⟨#[]⟩ : ByteArray), false, (([(⟨1, 0, 0, (⟨#[97]⟩ : ByteArray)⟩ : S53)] : List (S53)))⟩ : S40), (⟨2, 8, (⟨#[]⟩ : ByteArray), false, ([] : List (S53))⟩ : S40)] : List (S40)))).bind fun t185 => (some t185))) else (some false)))) else (some false)))) else (some false)))) else (some false))) else (some false))) = some r := by first | (rw [hy134]; with_reducible exact H) | (have H2_ := (Option.bind_some _ _).symm.trans H; rw [hy134]; with_reducible exact H2_) | (have H2_ := (Option.bind_some _ _).symm.trans H; with_reducible exact H2_) | with_reducible exact H | (rw [hy134]; exact H) | exact H
 have Ny134 := Sd.mk hy134
 clear hy134
 replace H := Option.bind_eq_some_iff.mp H
 obtain ⟨⟨t137, t138, t139, t140, t141, t142, t143⟩, A10, H⟩ := H
 replace H : (if t142 = 2 then ((trace_At.f y134 3 0).bind fun bt146 => (if bt146.2.2.2.2.2.1 = 0 then ((trace_Pulses.f y134 0).bind fun t155 => ((r06Ints.f k t155 (([0, 2] : List Int))).bind fun t161 => (if t161 = true then ((trace_Sent.f y134 0).bind fun t162 => ((r06Ints.f k t162 (([1] : List Int))).bind fun t168 => (if t168 = true then ((trace_Got.f y134 0 0 2).bind fun t169 => ((r24Same.f k t169 (([(⟨1, 0, 0, (⟨#[97]⟩ : ByteArray)⟩ : S53)] : List (S53)))).bind fun t175 => (if t175 = true then ((trace_Cycles.f y134 0).bind fun t176 => ((r36Same.f k t176 (([(⟨0, 7, (⟨#[]⟩ : ByteArray), false, (([(⟨1, 0, 0, (⟨#[97]⟩ : ByteArray)⟩ : S53)] : List (S53)))⟩ : S40), (⟨2, 8, (⟨#[]⟩ : ByteArray), false, ([] : List (S53))⟩ : S40)] : List (S40)))).bind fun t185 => (some t185))) else (some false)))) else (some false)))) else (some false)))) else (some false))) else (some false)) = some r := H
 have A1 := Sd.mk A10
 clear A10
 by_cases c2 : t142 = 2
 ·
  rw [if_pos c2] at H
  have c2b0 : (t142 == 2) = true := beq_iff_eq.mpr c2
  have c2b1 : (t142 != 2) = false := bne_eq_false_iff_eq.mpr c2
  clear c2
  replace H := Option.bind_eq_some_iff.mp H
  obtain ⟨⟨t146, t147, t148, t149, t150, t151, t152⟩, A30, H⟩ := H
  replace H : (if t151 = 0 then ((trace_Pulses.f y134 0).bind fun t155 => ((r06Ints.f k t155 (([0, 2] : List Int))).bind fun t161 => (if t161 = true then ((trace_Sent.f y134 0).bind fun t162 => ((r06Ints.f k t162 (([1] : List Int))).bind fun t168 => (if t168 = true then ((trace_Got.f y134 0 0 2).bind fun t169 => ((r24Same.f k t169 (([(⟨1, 0, 0, (⟨#[97]⟩ : ByteArray)⟩ : S53)] : List (S53)))).bind fun t175 => (if t175 = true then ((trace_Cycles.f y134 0).bind fun t176 => ((r36Same.f k t176 (([(⟨0, 7, (⟨#[]⟩ : ByteArray), false, (([(⟨1, 0, 0, (⟨#[97]⟩ : ByteArray)⟩ : S53)] : List (S53)))⟩ : S40), (⟨2, 8, (⟨#[]⟩ : ByteArray), false, ([] : List (S53))⟩ : S40)] : List (S40)))).bind fun t185 => (some t185))) else (some false)))) else (some false)))) else (some false)))) else (some false)) = some r := H
  have A3 := Sd.mk A30
  clear A30
  by_cases c4 : t151 = 0
  ·
   rw [if_pos c4] at H
   have c4b0 : (t151 == 0) = true := beq_iff_eq.mpr c4
   have c4b1 : (t151 != 0) = false := bne_eq_false_iff_eq.mpr c4
   clear c4
   replace H := Option.bind_eq_some_iff.mp H
   obtain ⟨t155, A50, H⟩ := H
   replace H : ((r06Ints.f k t155 (([0, 2] : List Int))).bind fun t161 => (if t161 = true then ((trace_Sent.f y134 0).bind fun t162 => ((r06Ints.f k t162 (([1] : List Int))).bind fun t168 => (if t168 = true then ((trace_Got.f y134 0 0 2).bind fun t169 => ((r24Same.f k t169 (([(⟨1, 0, 0, (⟨#[97]⟩ : ByteArray)⟩ : S53)] : List (S53)))).bind fun t175 => (if t175 = true then ((trace_Cycles.f y134 0).bind fun t176 => ((r36Same.f k t176 (([(⟨0, 7, (⟨#[]⟩ : ByteArray), false, (([(⟨1, 0, 0, (⟨#[97]⟩ : ByteArray)⟩ : S53)] : List (S53)))⟩ : S40), (⟨2, 8, (⟨#[]⟩ : ByteArray), false, ([] : List (S53))⟩ : S40)] : List (S40)))).bind fun t185 => (some t185))) else (some false)))) else (some false)))) else (some false))) = some r := H
   have A5 := Sd.mk A50
   clear A50
   obtain ⟨y158, hy158⟩ : ∃ y_ : List Int, y_ = (([0, 2] : List Int)) := ⟨_, rfl⟩
   replace H : ((r06Ints.f k t155 y158).bind fun t161 => (if t161 = true then ((trace_Sent.f y134 0).bind fun t162 => ((r06Ints.f k t162 (([1] : List Int))).bind fun t168 => (if t168 = true then ((trace_Got.f y134 0 0 2).bind fun t169 => ((r24Same.f k t169 (([(⟨1, 0, 0, (⟨#[97]⟩ : ByteArray)⟩ : S53)] : List (S53)))).bind fun t175 => (if t175 = true then ((trace_Cycles.f y134 0).bind fun t176 => ((r36Same.f k t176 (([(⟨0, 7, (⟨#[]⟩ : ByteArray), false, (([(⟨1, 0, 0, (⟨#[97]⟩ : ByteArray)⟩ : S53)] : List (S53)))⟩ : S40), (⟨2, 8, (⟨#[]⟩ : ByteArray), false, ([] : List (S53))⟩ : S40)] : List (S40)))).bind fun t185 => (some t185))) else (some false)))) else (some false)))) else (some false))) = some r := by first | (rw [hy158]; with_reducible exact H) | (have H2_ := (Option.bind_some _ _).symm.trans H; rw [hy158]; with_reducible exact H2_) | (have H2_ := (Option.bind_some _ _).symm.trans H; with_reducible exact H2_) | with_reducible exact H | (rw [hy158]; exact H) | exact H
   have Ny158 := Sd.mk hy158
   clear hy158
   replace H := Option.bind_eq_some_iff.mp H
   obtain ⟨t161, A60, H⟩ := H
   replace H : (if t161 = true then ((trace_Sent.f y134 0).bind fun t162 => ((r06Ints.f k t162 (([1] : List Int))).bind fun t168 => (if t168 = true then ((trace_Got.f y134 0 0 2).bind fun t169 => ((r24Same.f k t169 (([(⟨1, 0, 0, (⟨#[97]⟩ : ByteArray)⟩ : S53)] : List (S53)))).bind fun t175 => (if t175 = true then ((trace_Cycles.f y134 0).bind fun t176 => ((r36Same.f k t176 (([(⟨0, 7, (⟨#[]⟩ : ByteArray), false, (([(⟨1, 0, 0, (⟨#[97]⟩ : ByteArray)⟩ : S53)] : List (S53)))⟩ : S40), (⟨2, 8, (⟨#[]⟩ : ByteArray), false, ([] : List (S53))⟩ : S40)] : List (S40)))).bind fun t185 => (some t185))) else (some false)))) else (some false)))) else (some false)) = some r := H
   have A6 := Sd.mk A60
   clear A60
   by_cases c7 : t161 = true
   ·
    subst c7
    have H1 : ((trace_Sent.f y134 0).bind fun t162 => ((r06Ints.f k t162 (([1] : List Int))).bind fun t168 => (if t168 = true then ((trace_Got.f y134 0 0 2).bind fun t169 => ((r24Same.f k t169 (([(⟨1, 0, 0, (⟨#[97]⟩ : ByteArray)⟩ : S53)] : List (S53)))).bind fun t175 => (if t175 = true then ((trace_Cycles.f y134 0).bind fun t176 => ((r36Same.f k t176 (([(⟨0, 7, (⟨#[]⟩ : ByteArray), false, (([(⟨1, 0, 0, (⟨#[97]⟩ : ByteArray)⟩ : S53)] : List (S53)))⟩ : S40), (⟨2, 8, (⟨#[]⟩ : ByteArray), false, ([] : List (S53))⟩ : S40)] : List (S40)))).bind fun t185 => (some t185))) else (some false)))) else (some false)))) = some r := by rw [if_pos rfl] at H; exact H
    clear H
    have H := H1
    clear H1
    replace H := Option.bind_eq_some_iff.mp H
    obtain ⟨t162, A80, H⟩ := H
    replace H : ((r06Ints.f k t162 (([1] : List Int))).bind fun t168 => (if t168 = true then ((trace_Got.f y134 0 0 2).bind fun t169 => ((r24Same.f k t169 (([(⟨1, 0, 0, (⟨#[97]⟩ : ByteArray)⟩ : S53)] : List (S53)))).bind fun t175 => (if t175 = true then ((trace_Cycles.f y134 0).bind fun t176 => ((r36Same.f k t176 (([(⟨0, 7, (⟨#[]⟩ : ByteArray), false, (([(⟨1, 0, 0, (⟨#[97]⟩ : ByteArray)⟩ : S53)] : List (S53)))⟩ : S40), (⟨2, 8, (⟨#[]⟩ : ByteArray), false, ([] : List (S53))⟩ : S40)] : List (S40)))).bind fun t185 => (some t185))) else (some false)))) else (some false))) = some r := H
    have A8 := Sd.mk A80
    clear A80
    obtain ⟨y165, hy165⟩ : ∃ y_ : List Int, y_ = (([1] : List Int)) := ⟨_, rfl⟩
    replace H : ((r06Ints.f k t162 y165).bind fun t168 => (if t168 = true then ((trace_Got.f y134 0 0 2).bind fun t169 => ((r24Same.f k t169 (([(⟨1, 0, 0, (⟨#[97]⟩ : ByteArray)⟩ : S53)] : List (S53)))).bind fun t175 => (if t175 = true then ((trace_Cycles.f y134 0).bind fun t176 => ((r36Same.f k t176 (([(⟨0, 7, (⟨#[]⟩ : ByteArray), false, (([(⟨1, 0, 0, (⟨#[97]⟩ : ByteArray)⟩ : S53)] : List (S53)))⟩ : S40), (⟨2, 8, (⟨#[]⟩ : ByteArray), false, ([] : List (S53))⟩ : S40)] : List (S40)))).bind fun t185 => (some t185))) else (some false)))) else (some false))) = some r := by first | (rw [hy165]; with_reducible exact H) | (have H2_ := (Option.bind_some _ _).symm.trans H; rw [hy165]; with_reducible exact H2_) | (have H2_ := (Option.bind_some _ _).symm.trans H; with_reducible exact H2_) | with_reducible exact H | (rw [hy165]; exact H) | exact H
    have Ny165 := Sd.mk hy165
    clear hy165
    replace H := Option.bind_eq_some_iff.mp H
    obtain ⟨t168, A90, H⟩ := H
    replace H : (if t168 = true then ((trace_Got.f y134 0 0 2).bind fun t169 => ((r24Same.f k t169 (([(⟨1, 0, 0, (⟨#[97]⟩ : ByteArray)⟩ : S53)] : List (S53)))).bind fun t175 => (if t175 = true then ((trace_Cycles.f y134 0).bind fun t176 => ((r36Same.f k t176 (([(⟨0, 7, (⟨#[]⟩ : ByteArray), false, (([(⟨1, 0, 0, (⟨#[97]⟩ : ByteArray)⟩ : S53)] : List (S53)))⟩ : S40), (⟨2, 8, (⟨#[]⟩ : ByteArray), false, ([] : List (S53))⟩ : S40)] : List (S40)))).bind fun t185 => (some t185))) else (some false)))) else (some false)) = some r := H
    have A9 := Sd.mk A90
    clear A90
    by_cases c10 : t168 = true
    ·
     subst c10
     have H1 : ((trace_Got.f y134 0 0 2).bind fun t169 => ((r24Same.f k t169 (([(⟨1, 0, 0, (⟨#[97]⟩ : ByteArray)⟩ : S53)] : List (S53)))).bind fun t175 => (if t175 = true then ((trace_Cycles.f y134 0).bind fun t176 => ((r36Same.f k t176 (([(⟨0, 7, (⟨#[]⟩ : ByteArray), false, (([(⟨1, 0, 0, (⟨#[97]⟩ : ByteArray)⟩ : S53)] : List (S53)))⟩ : S40), (⟨2, 8, (⟨#[]⟩ : ByteArray), false, ([] : List (S53))⟩ : S40)] : List (S40)))).bind fun t185 => (some t185))) else (some false)))) = some r := by rw [if_pos rfl] at H; exact H
     clear H
     have H := H1
     clear H1
     replace H := Option.bind_eq_some_iff.mp H
     obtain ⟨t169, A110, H⟩ := H
     replace H : ((r24Same.f k t169 (([(⟨1, 0, 0, (⟨#[97]⟩ : ByteArray)⟩ : S53)] : List (S53)))).bind fun t175 => (if t175 = true then ((trace_Cycles.f y134 0).bind fun t176 => ((r36Same.f k t176 (([(⟨0, 7, (⟨#[]⟩ : ByteArray), false, (([(⟨1, 0, 0, (⟨#[97]⟩ : ByteArray)⟩ : S53)] : List (S53)))⟩ : S40), (⟨2, 8, (⟨#[]⟩ : ByteArray), false, ([] : List (S53))⟩ : S40)] : List (S40)))).bind fun t185 => (some t185))) else (some false))) = some r := H
     have A11 := Sd.mk A110
     clear A110
     obtain ⟨y172, hy172⟩ : ∃ y_ : List (S53), y_ = (([(⟨1, 0, 0, (⟨#[97]⟩ : ByteArray)⟩ : S53)] : List (S53))) := ⟨_, rfl⟩
     replace H : ((r24Same.f k t169 y172).bind fun t175 => (if t175 = true then ((trace_Cycles.f y134 0).bind fun t176 => ((r36Same.f k t176 (([(⟨0, 7, (⟨#[]⟩ : ByteArray), false, (([(⟨1, 0, 0, (⟨#[97]⟩ : ByteArray)⟩ : S53)] : List (S53)))⟩ : S40), (⟨2, 8, (⟨#[]⟩ : ByteArray), false, ([] : List (S53))⟩ : S40)] : List (S40)))).bind fun t185 => (some t185))) else (some false))) = some r := by first | (rw [hy172]; with_reducible exact H) | (have H2_ := (Option.bind_some _ _).symm.trans H; rw [hy172]; with_reducible exact H2_) | (have H2_ := (Option.bind_some _ _).symm.trans H; with_reducible exact H2_) | with_reducible exact H | (rw [hy172]; exact H) | exact H
     have Ny172 := Sd.mk hy172
     clear hy172
     replace H := Option.bind_eq_some_iff.mp H
     obtain ⟨t175, A120, H⟩ := H
     replace H : (if t175 = true then ((trace_Cycles.f y134 0).bind fun t176 => ((r36Same.f k t176 (([(⟨0, 7, (⟨#[]⟩ : ByteArray), false, (([(⟨1, 0, 0, (⟨#[97]⟩ : ByteArray)⟩ : S53)] : List (S53)))⟩ : S40), (⟨2, 8, (⟨#[]⟩ : ByteArray), false, ([] : List (S53))⟩ : S40)] : List (S40)))).bind fun t185 => (some t185))) else (some false)) = some r := H
     have A12 := Sd.mk A120
     clear A120
     by_cases c13 : t175 = true
     ·
      subst c13
      have H1 : ((trace_Cycles.f y134 0).bind fun t176 => ((r36Same.f k t176 (([(⟨0, 7, (⟨#[]⟩ : ByteArray), false, (([(⟨1, 0, 0, (⟨#[97]⟩ : ByteArray)⟩ : S53)] : List (S53)))⟩ : S40), (⟨2, 8, (⟨#[]⟩ : ByteArray), false, ([] : List (S53))⟩ : S40)] : List (S40)))).bind fun t185 => (some t185))) = some r := by rw [if_pos rfl] at H; exact H
      clear H
      have H := H1
      clear H1
      replace H := Option.bind_eq_some_iff.mp H
      obtain ⟨t176, A140, H⟩ := H
      replace H : ((r36Same.f k t176 (([(⟨0, 7, (⟨#[]⟩ : ByteArray), false, (([(⟨1, 0, 0, (⟨#[97]⟩ : ByteArray)⟩ : S53)] : List (S53)))⟩ : S40), (⟨2, 8, (⟨#[]⟩ : ByteArray), false, ([] : List (S53))⟩ : S40)] : List (S40)))).bind fun t185 => (some t185)) = some r := H
      have A14 := Sd.mk A140
      clear A140
      obtain ⟨y179, hy179⟩ : ∃ y_ : List (S53), y_ = (([(⟨1, 0, 0, (⟨#[97]⟩ : ByteArray)⟩ : S53)] : List (S53))) := ⟨_, rfl⟩
      replace H : ((r36Same.f k t176 (([(⟨0, 7, (⟨#[]⟩ : ByteArray), false, y179⟩ : S40), (⟨2, 8, (⟨#[]⟩ : ByteArray), false, ([] : List (S53))⟩ : S40)] : List (S40)))).bind fun t185 => (some t185)) = some r := by first | (rw [hy179]; with_reducible exact H) | (have H2_ := (Option.bind_some _ _).symm.trans H; rw [hy179]; with_reducible exact H2_) | (have H2_ := (Option.bind_some _ _).symm.trans H; with_reducible exact H2_) | with_reducible exact H | (rw [hy179]; exact H) | exact H
      have Ny179 := Sd.mk hy179
      clear hy179
      obtain ⟨y182, hy182⟩ : ∃ y_ : List (S40), y_ = (([(⟨0, 7, (⟨#[]⟩ : ByteArray), false, y179⟩ : S40), (⟨2, 8, (⟨#[]⟩ : ByteArray), false, ([] : List (S53))⟩ : S40)] : List (S40))) := ⟨_, rfl⟩
      replace H : ((r36Same.f k t176 y182).bind fun t185 => (some t185)) = some r := by first | (rw [hy182]; with_reducible exact H) | (have H2_ := (Option.bind_some _ _).symm.trans H; rw [hy182]; with_reducible exact H2_) | (have H2_ := (Option.bind_some _ _).symm.trans H; with_reducible exact H2_) | with_reducible exact H | (rw [hy182]; exact H) | exact H
      have Ny182 := Sd.mk hy182
      clear hy182
      replace H := Option.bind_eq_some_iff.mp H
      obtain ⟨t185, A150, H⟩ := H
      replace H : (some t185) = some r := H
      have A15 := Sd.mk A150
      clear A150
      obtain rfl := Option.some.inj H
      go_enter Try.func10, Try.ntmps10
      try go_wp2_with (first | ((with_reducible refine gate_dst (N := 1) rfl ?_); (try (refine gate_guard (by rfl) ?_; dsimp only)); refine box_event ?hg (N := 1) ?hd (cs := #[.int .i64 0, .int .i64 0, .int .i64 0, .string (⟨#[]⟩ : ByteArray)]) (t := 53) ?hr ?_; (case hd => rfl); (case hg => rfl); (case hr => first | (go_simp; done) | (go_simp; rfl)); intro gb118 hg w16 hbox hb; have n0_ := Sd.mk (below_step bel_ hb); have n1_ := Sd.mk (hbox); have n2_ := Sd.mk ((by rw [hg]; exact (below_size bel_) : w.heap.size ≤ gb118)); have n3_ := Sd.mk ((by rw [hg]; exact (below_size bel_) : w.heap.size ≤ gb118)); clear HB; have HB := n0_; have BK118 := n1_; have GW118 := n2_; have GE118 := n3_; clear n0_ n1_ n2_ n3_; clear hb hbox hg; obtain ⟨z17_0, z17_1, z17_2, z17_3, j17_0, j17_1, j17_2, j17_3⟩ := cells4 BK118.out) | ((with_reducible refine gate_dst (N := 5) rfl ?_); (try (refine gate_guard (by rfl) ?_; dsimp only)); refine Kd.N_lit k28 _ 28 ?hg (N' := 5) ?hd (xs := ([(⟨true, false, 7, 0, (⟨#[]⟩ : ByteArray), 0, ([] : List (S53))⟩ : S28)] : List (S28))) (inner := [.bool true, .bool false, .int .i64 7, .int .i64 0, .string (⟨#[]⟩ : ByteArray), .int .i64 0, .slice none 0 0]) (ok := (fun k_ => k_ ≠ gb118)) (okp := (fun k_ => k_ ≠ gb118)) ?hr ?hp (fun _ hk => hk) ((show ∀ k_, w16.heap.size ≤ k_ → (fun k_ => k_ ≠ gb118) k_ from fun k_ hk => Kd.freshB (g := gb118) (o := .cells #[.int .i64 0, .int .i64 0, .int .i64 0, .string (⟨#[]⟩ : ByteArray)] 53 (0, 0)) BK118.out k_ hk) _ (by simp)) (Below.refl _ _) (Nat.le_refl _) (by simp) ?_; (case hd => rfl); (case hg => rfl); (case hr => first | (go_simp; done) | (go_simp; rfl)); (case hp => exact (Reps.c7 (show Kd.FK k28 _ _ (⟨true, false, 7, 0, (⟨#[]⟩ : ByteArray), 0, ([] : List (S53))⟩ : S28) [.bool true, .bool false, .int .i64 7, .int .i64 0, .string (⟨#[]⟩ : ByteArray), .int .i64 0, .slice none 0 0] from (k28_mkF _ _ (⟨true, false, 7, 0, (⟨#[]⟩ : ByteArray), 0, ([] : List (S53))⟩ : S28) (Nat.le_refl _) (Kd.F_nil _ _ _))) (Reps.none _ _))); intro v120 w18 ho19 hb hg_ hnew_; clear hg_ hnew_; (first | rw [← Ny119.out] at ho19 | (simp only [Int.reduceToNat] at ho19; rw [← Ny119.out] at ho19)); have n0_ := Sd.mk (Kd.N_lower ho19 (below_size bel_)); have n1_ := Sd.mk (blk_below (g := gb118) (o := .cells #[.int .i64 1, .int .i64 0, .int .i64 0, .string (⟨#[97]⟩ : ByteArray)] 53 (0, 0)) (by (with_reducible repeat (first | refine blk_drewN ?_ _ | refine blk_drew ?_ | refine blk_alloc ?_ _)); refine blk_put (cs := #[.int .i64 1, .int .i64 0, .int .i64 0, .string (⟨#[]⟩ : ByteArray)]) ?_ 3 _ rfl; (with_reducible repeat (first | refine blk_drewN ?_ _ | refine blk_drew ?_ | refine blk_alloc ?_ _)); refine blk_put (cs := #[.int .i64 1, .int .i64 0, .int .i64 0, .string (⟨#[]⟩ : ByteArray)]) ?_ 2 _ rfl; (with_reducible repeat (first | refine blk_drewN ?_ _ | refine blk_drew ?_ | refine blk_alloc ?_ _)); refine blk_put (cs := #[.int .i64 1, .int .i64 0, .int .i64 0, .string (⟨#[]⟩ : ByteArray)]) ?_ 1 _ rfl; (with_reducible repeat (first | refine blk_drewN ?_ _ | refine blk_drew ?_ | refine blk_alloc ?_ _)); refine blk_put (cs := #[.int .i64 0, .int .i64 0, .int .i64 0, .string (⟨#[]⟩ : ByteArray)]) ?_ 0 _ rfl; (with_reducible repeat (first | refine blk_drewN ?_ _ | refine blk_drew ?_ | refine blk_alloc ?_ _)); exact BK118.out) hb); have n2_ := Sd.mk (below_step bel_ hb); clear BK118; clear HB; have HO121 := n0_; have BK118 := n1_; have HB := n2_; clear n0_ n1_ n2_; clear hb ho19; obtain ⟨z20_0, z20_1, z20_2, z20_3, j20_0, j20_1, j20_2, j20_3⟩ := cells4 BK118.out) | ((with_reducible refine gate_dst (N := 7) rfl ?_); (try (refine gate_guard (by rfl) ?_; dsimp only)); refine Kd.R_lit k53 _ 53 ?hg (N := 7) ?hd (xs := ([(⟨1, 0, 0, (⟨#[97]⟩ : ByteArray)⟩ : S53)] : List (S53))) (inner := [.int .i64 1, .int .i64 0, .int .i64 0, .string (⟨#[97]⟩ : ByteArray)]) (ok := fun _ => True) (okp := fun _ => True) ?hr ?hp (fun _ hk => hk) trivial (Below.refl _ _) (Nat.le_refl _) (by simp) ?_; (case hd => rfl); (case hg => rfl); (case hr => first | (go_simp; done) | (go_simp; rfl)); (case hp => exact (Reps.c4 (show Kd.M k53 _ _ _ (⟨1, 0, 0, (⟨#[97]⟩ : ByteArray)⟩ : S53) [.int .i64 1, .int .i64 0, .int .i64 0, .string (⟨#[97]⟩ : ByteArray)] from (k53_mkM _ _ _ (⟨1, 0, 0, (⟨#[97]⟩ : ByteArray)⟩ : S53) )) (Reps.none _ _))); intro v123 w21 ho22 hb hg_ hnew_; clear hg_ hnew_; (first | rw [← Ny122.out] at ho22 | (simp only [Int.reduceToNat] at ho22; rw [← Ny122.out] at ho22)); have n0_ := Sd.mk (Kd.N_elder' (q30N HO121.out) (Kd.R_base ho22) hb); have n1_ := Sd.mk (Kd.R_lower (Kd.R_newB ho22 (g := gb118) (o := .cells #[.int .i64 1, .int .i64 0, .int .i64 0, .string (⟨#[97]⟩ : ByteArray)] 53 (0, 0)) blk_) (below_size bel_)); have n2_ := Sd.mk (blk_below (g := gb118) (o := .cells #[.int .i64 1, .int .i64 0, .int .i64 0, .string (⟨#[97]⟩ : ByteArray)] 53 (0, 0)) blk_ hb); have n3_ := Sd.mk (below_step bel_ hb); clear HO121; clear BK118; clear HB; have HO121 := n0_; have HO124 := n1_; have BK118 := n2_; have HB := n3_; clear n0_ n1_ n2_ n3_; clear hb ho22; obtain ⟨Ao23, co23, eo23⟩ := Kd.R_slice HO124.out; subst eo23) | ((with_reducible refine gate_dst (N := 9) rfl ?_); (try (refine gate_guard (by rfl) ?_; dsimp only)); refine Kd.N_lit k28 _ 28 ?hg (N' := 9) ?hd (xs := ([(⟨false, false, 0, 0, (⟨#[]⟩ : ByteArray), 2, y122⟩ : S28)] : List (S28))) (inner := [.bool false, .bool false, .int .i64 0, .int .i64 0, .string (⟨#[]⟩ : ByteArray), .int .i64 2, .slice Ao23 y122.length co23]) (ok := (fun k_ => some k_ ≠ (v120 : Value).ownBlock ∧ k_ ≠ gb118)) (okp := (fun k_ => some k_ ≠ (v120 : Value).ownBlock ∧ k_ ≠ gb118)) ?hr ?hp (fun _ hk => hk) ((show ∀ k_, w21.heap.size ≤ k_ → (fun k_ => some k_ ≠ (v120 : Value).ownBlock ∧ k_ ≠ gb118) k_ from fun k_ hk => ⟨Kd.fresh' (Kd.N_lt (q30N HO121.out)) k_ hk, Kd.freshB (g := gb118) (o := .cells #[.int .i64 1, .int .i64 0, .int .i64 0, .string (⟨#[97]⟩ : ByteArray)] 53 (0, 0)) blk_ k_ hk⟩) _ (Nat.le_refl _)) (Below.refl _ _) (Nat.le_refl _) (by simp) ?_; (case hd => rfl); (case hg => rfl); (case hr => first | (go_simp; done) | (go_simp; rfl)); (case hp => exact (Reps.c7 (show Kd.FK k28 _ _ (⟨false, false, 0, 0, (⟨#[]⟩ : ByteArray), 2, y122⟩ : S28) [.bool false, .bool false, .int .i64 0, .int .i64 0, .string (⟨#[]⟩ : ByteArray), .int .i64 2, .slice Ao23 y122.length co23] from (k28_mkF _ _ (⟨false, false, 0, 0, (⟨#[]⟩ : ByteArray), 2, y122⟩ : S28) (Kd.R_reads' (Kd.R_mono (ok' := (fun k_ => some k_ ≠ (v120 : Value).ownBlock ∧ k_ ≠ gb118)) (Kd.R_apart' (HO124.out) (Kd.N_typed HO121.out) (by decide)) (fun k_ hk => ⟨hk.2, hk.1.2⟩))).2.1 (Kd.R_F (Kd.R_mono (ok' := (fun k_ => some k_ ≠ (v120 : Value).ownBlock ∧ k_ ≠ gb118)) (Kd.R_apart' (HO124.out) (Kd.N_typed HO121.out) (by decide)) (fun k_ hk => ⟨hk.2, hk.1.2⟩))))) (Reps.none _ _))); intro v126 w24 ho25 hb hg_ hnew_; clear hg_ hnew_; (first | rw [← Ny125.out] at ho25 | (simp only [Int.reduceToNat] at ho25; rw [← Ny125.out] at ho25)); have n0_ := Sd.mk (Kd.N_elder' (q30N HO121.out) (Kd.N_base ho25) hb); have n1_ := Sd.mk (Kd.N_lower ho25 (below_size bel_)); have n2_ := Sd.mk (blk_below (g := gb118) (o := .cells #[.int .i64 1, .int .i64 0, .int .i64 0, .string (⟨#[97]⟩ : ByteArray)] 53 (0, 0)) blk_ hb); have n3_ := Sd.mk (below_step bel_ hb); clear HO121; clear BK118; clear HB; clear HO124; have HO121 := n0_; have HO127 := n1_; have BK118 := n2_; have HB := n3_; clear n0_ n1_ n2_ n3_; clear hb ho25) | ((with_reducible refine gate_dst (N := 11) rfl ?_); (try (refine gate_guard (by rfl) ?_; dsimp only)); refine Kd.N_lit k28 _ 28 ?hg (N' := 11) ?hd (xs := ([(⟨true, false, 8, 0, (⟨#[]⟩ : ByteArray), 0, ([] : List (S53))⟩ : S28)] : List (S28))) (inner := [.bool true, .bool false, .int .i64 8, .int .i64 0, .string (⟨#[]⟩ : ByteArray), .int .i64 0, .slice none 0 0]) (ok := (fun k_ => some k_ ≠ (v120 : Value).ownBlock ∧ some k_ ≠ (v126 : Value).ownBlock ∧ k_ ≠ gb118)) (okp := (fun k_ => some k_ ≠ (v120 : Value).ownBlock ∧ some k_ ≠ (v126 : Value).ownBlock ∧ k_ ≠ gb118)) ?hr ?hp (fun _ hk => hk) ((show ∀ k_, w24.heap.size ≤ k_ → (fun k_ => some k_ ≠ (v120 : Value).ownBlock ∧ some k_ ≠ (v126 : Value).ownBlock ∧ k_ ≠ gb118) k_ from fun k_ hk => ⟨Kd.fresh' (Kd.N_lt (q30N HO121.out)) k_ hk, Kd.fresh' (Kd.N_lt (q30N HO127.out)) k_ hk, Kd.freshB (g := gb118) (o := .cells #[.int .i64 1, .int .i64 0, .int .i64 0, .string (⟨#[97]⟩ : ByteArray)] 53 (0, 0)) blk_ k_ hk⟩) _ (Nat.le_refl _)) (Below.refl _ _) (Nat.le_refl _) (by simp) ?_; (case hd => rfl); (case hg => rfl); (case hr => first | (go_simp; done) | (go_simp; rfl)); (case hp => exact (Reps.c7 (show Kd.FK k28 _ _ (⟨true, false, 8, 0, (⟨#[]⟩ : ByteArray), 0, ([] : List (S53))⟩ : S28) [.bool true, .bool false, .int .i64 8, .int .i64 0, .string (⟨#[]⟩ : ByteArray), .int .i64 0, .slice none 0 0] from (k28_mkF _ _ (⟨true, false, 8, 0, (⟨#[]⟩ : ByteArray), 0, ([] : List (S53))⟩ : S28) (Nat.le_refl _) (Kd.F_nil _ _ _))) (Reps.none _ _))); intro v129 w26 ho27 hb hg_ hnew_; clear hg_ hnew_; (first | rw [← Ny128.out] at ho27 | (simp only [Int.reduceToNat] at ho27; rw [← Ny128.out] at ho27)); have n0_ := Sd.mk (Kd.N_elder' (q30N HO121.out) (Kd.N_base ho27) hb); have n1_ := Sd.mk (Kd.N_elder' (q30N HO127.out) (Kd.N_base ho27) hb); have n2_ := Sd.mk (Kd.N_lower ho27 (below_size bel_)); have n3_ := Sd.mk (blk_below (g := gb118) (o := .cells #[.int .i64 1, .int .i64 0, .int .i64 0, .string (⟨#[97]⟩ : ByteArray)] 53 (0, 0)) blk_ hb); have n4_ := Sd.mk (below_step bel_ hb); clear HO121; clear HO127; clear BK118; clear HB; have HO121 := n0_; have HO127 := n1_; have HO130 := n2_; have BK118 := n3_; have HB := n4_; clear n0_ n1_ n2_ n3_ n4_; clear hb ho27) | ((with_reducible refine gate_dst (N := 12) rfl ?_); (try (refine gate_guard (by rfl) ?_; dsimp only)); refine Kd.N_lit k28 _ 28 ?hg (N' := 12) ?hd (xs := ([] : List (S28))) (inner := []) (ok := (fun k_ => some k_ ≠ (v120 : Value).ownBlock ∧ some k_ ≠ (v126 : Value).ownBlock ∧ some k_ ≠ (v129 : Value).ownBlock ∧ k_ ≠ gb118)) (okp := (fun k_ => some k_ ≠ (v120 : Value).ownBlock ∧ some k_ ≠ (v126 : Value).ownBlock ∧ some k_ ≠ (v129 : Value).ownBlock ∧ k_ ≠ gb118)) ?hr ?hp (fun _ hk => hk) ((show ∀ k_, w26.heap.size ≤ k_ → (fun k_ => some k_ ≠ (v120 : Value).ownBlock ∧ some k_ ≠ (v126 : Value).ownBlock ∧ some k_ ≠ (v129 : Value).ownBlock ∧ k_ ≠ gb118) k_ from fun k_ hk => ⟨Kd.fresh' (Kd.N_lt (q30N HO121.out)) k_ hk, Kd.fresh' (Kd.N_lt (q30N HO127.out)) k_ hk, Kd.fresh' (Kd.N_lt (q30N HO130.out)) k_ hk, Kd.freshB (g := gb118) (o := .cells #[.int .i64 1, .int .i64 0, .int .i64 0, .string (⟨#[97]⟩ : ByteArray)] 53 (0, 0)) blk_ k_ hk⟩) _ (Nat.le_refl _)) (Below.refl _ _) (Nat.le_refl _) (by simp) ?_; (case hd => rfl); (case hg => rfl); (case hr => first | (go_simp; done) | (go_simp; rfl)); (case hp => exact (Reps.none _ _)); intro v132 w28 ho29 hb hg_ hnew_; clear hg_ hnew_; (first | rw [← Ny131.out] at ho29 | (simp only [Int.reduceToNat] at ho29; rw [← Ny131.out] at ho29)); have n0_ := Sd.mk (Kd.N_elder' (q30N HO121.out) (Kd.N_base ho29) hb); have n1_ := Sd.mk (Kd.N_elder' (q30N HO127.out) (Kd.N_base ho29) hb); have n2_ := Sd.mk (Kd.N_elder' (q30N HO130.out) (Kd.N_base ho29) hb); have n3_ := Sd.mk (Kd.N_lower ho29 (below_size bel_)); have n4_ := Sd.mk (blk_below (g := gb118) (o := .cells #[.int .i64 1, .int .i64 0, .int .i64 0, .string (⟨#[97]⟩ : ByteArray)] 53 (0, 0)) blk_ hb); have n5_ := Sd.mk (below_step bel_ hb); clear HO121; clear HO127; clear HO130; clear BK118; clear HB; have HO121 := n0_; have HO127 := n1_; have HO130 := n2_; have HO133 := n3_; have BK118 := n4_; have HB := n5_; clear n0_ n1_ n2_ n3_ n4_ n5_; clear hb ho29; obtain ⟨Ao30, co30, eo30⟩ := Kd.N_slice HO121.out; subst eo30; obtain ⟨Ao31, co31, eo31⟩ := Kd.N_slice HO127.out; subst eo31; obtain ⟨Ao32, co32, eo32⟩ := Kd.N_slice HO130.out; subst eo32; obtain ⟨Ao33, co33, eo33⟩ := Kd.N_slice HO133.out; subst eo33) | ((with_reducible refine gate_dst (N := 13) rfl ?_); (try (refine gate_guard (by rfl) ?_; dsimp only)); refine Kd.N_lit (Kd.slice 28 k28) _ 51 ?hg (N' := 13) ?hd (xs := ([y119, y125, y128, y131] : List (List (S28)))) (inner := [.slice Ao30 y119.length co30, .slice Ao31 y125.length co31, .slice Ao32 y128.length co32, .slice Ao33 y131.length co33]) (ok := (fun k_ => k_ ≠ gb118)) (okp := (fun k_ => k_ ≠ gb118)) ?hr ?hp (fun _ hk => hk) ((show ∀ k_, w28.heap.size ≤ k_ → (fun k_ => k_ ≠ gb118) k_ from fun k_ hk => Kd.freshB (g := gb118) (o := .cells #[.int .i64 1, .int .i64 0, .int .i64 0, .string (⟨#[97]⟩ : ByteArray)] 53 (0, 0)) blk_ k_ hk) _ (Nat.le_refl _)) (Below.refl _ _) (Nat.le_refl _) (by simp) ?_; (case hd => rfl); (case hg => rfl); (case hr => first | (go_simp; done) | (go_simp; rfl)); (case hp => exact (Reps.one (show Kd.FK (Kd.slice 28 k28) _ _ y119 [.slice Ao30 y119.length co30] from (Kd.FK_slice_mk (Kd.N_reads' (Kd.N_mono (ok' := (fun k_ => k_ ≠ gb118)) (HO121.out) (fun k_ hk => hk.1.1.1.1))).2.1 (Kd.N_F (Kd.N_mono (ok' := (fun k_ => k_ ≠ gb118)) (HO121.out) (fun k_ hk => hk.1.1.1.1))))) (Reps.one (show Kd.FK (Kd.slice 28 k28) _ _ y125 [.slice Ao31 y125.length co31] from (Kd.FK_slice_mk (Kd.N_reads' (Kd.N_mono (ok' := (fun k_ => k_ ≠ gb118)) (HO127.out) (fun k_ hk => hk.1.1.2))).2.1 (Kd.N_F (Kd.N_mono (ok' := (fun k_ => k_ ≠ gb118)) (HO127.out) (fun k_ hk => hk.1.1.2))))) (Reps.one (show Kd.FK (Kd.slice 28 k28) _ _ y128 [.slice Ao32 y128.length co32] from (Kd.FK_slice_mk (Kd.N_reads' (Kd.N_mono (ok' := (fun k_ => k_ ≠ gb118)) (HO130.out) (fun k_ hk => hk.1.2.2))).2.1 (Kd.N_F (Kd.N_mono (ok' := (fun k_ => k_ ≠ gb118)) (HO130.out) (fun k_ hk => hk.1.2.2))))) (Reps.one (show Kd.FK (Kd.slice 28 k28) _ _ y131 [.slice Ao33 y131.length co33] from (Kd.FK_slice_mk (Kd.N_reads' (Kd.N_mono (ok' := (fun k_ => k_ ≠ gb118)) (HO133.out) (fun k_ hk => hk.2.2.2))).2.1 (Kd.N_F (Kd.N_mono (ok' := (fun k_ => k_ ≠ gb118)) (HO133.out) (fun k_ hk => hk.2.2.2))))) (Reps.none _ _)))))); intro v135 w34 ho35 hb hg_ hnew_; clear hg_ hnew_; (first | rw [← Ny134.out] at ho35 | (simp only [Int.reduceToNat] at ho35; rw [← Ny134.out] at ho35)); have n0_ := Sd.mk (Kd.N_lower ho35 (below_size bel_)); have n1_ := Sd.mk (blk_below (g := gb118) (o := .cells #[.int .i64 1, .int .i64 0, .int .i64 0, .string (⟨#[97]⟩ : ByteArray)] 53 (0, 0)) blk_ hb); have n2_ := Sd.mk (below_step bel_ hb); clear BK118; clear HB; clear HO121; clear HO127; clear HO130; clear HO133; have HO136 := n0_; have BK118 := n1_; have HB := n2_; clear n0_ n1_ n2_; clear hb ho35; obtain ⟨Ao36, co36, eo36⟩ := Kd.N_slice HO136.out; subst eo36))
      have n0_ := Sd.mk (Kd.N_drew HO136.out)
      have n1_ := Sd.mk (blk_drew BK118.out)
      have n2_ := Sd.mk (below_drew1 HB.out)
      clear HO136
      clear BK118
      clear HB
      have HO136 := n0_
      have BK118 := n1_
      have HB := n2_
      clear n0_ n1_ n2_
      refine start_ (n := 40) (S := fun w' => w'.cell? ⟨gb118, 0, none⟩ = some (.int .i64 1) ∧ w'.cell? ⟨gb118, 1, none⟩ = some (.int .i64 0) ∧ w'.cell? ⟨gb118, 2, none⟩ = some (.int .i64 0) ∧ w'.cell? ⟨gb118, 3, none⟩ = some (.string (⟨#[97]⟩ : ByteArray))) (ds := []) #[false,false,false,false,false,false,false,false,false,false,false,false,false,false,false,false,false,false,false,false,false,false,false,false,false,false,false,false,false,false,false,false,false,false,false,false,false,false,false,false] (by kernel_rfl) rfl rfl ⟨(blk_cell BK118.out 0).trans rfl, (blk_cell BK118.out 1).trans rfl, (blk_cell BK118.out 2).trans rfl, (blk_cell BK118.out 3).trans rfl⟩ (fun hHeld => ?_); refine with_tabW l36known.tab3 l36known.bits3 (fun HT_ HW_ => ?_)
      generalize w34.drew = w37 at HO136 BK118 HB hHeld ⊢
      refine pure_ (i := 0) (N := some 14) (v := ?_) (a' := ?_) #[true,false,false,false,false,false,false,false,false,false,false,false,false,false,false,false,false,false,false,false,false,false,false,false,false,false,false,false,false,false,false,false,false,false,false,false,false,false,false,false] rfl rfl (any_of HT_.out (by kernel_rfl)) (fun _ _ _ h => h) (Or.inl ⟨by rfl, ?_⟩) ?_ ?_
      rotate_left
      ·
       intro w'
       go_simp
       with_reducible rfl
      rotate_left
      ·
       simp only [Act.put, List.setIfInBounds_toArray, List.set_cons_zero, List.set_cons_succ, i64_w, i32_w]
       rfl
      refine one_ (i := 1) (N := some 15) #[true,true,false,false,false,false,false,false,false,false,false,false,false,false,false,false,false,false,false,false,false,false,false,false,false,false,false,false,false,false,false,false,false,false,false,false,false,false,false,false] rfl rfl (one_of HT_.out (by kernel_rfl)) (by decide) (fun K hK => ?_)
      refine goes_ Try.func12 (by kernel_rfl) rfl #[.slice Ao36 y134.length co36, .int .i64 1, .int .i64 0] (by rfl) rfl rfl (by (try simp only [List.map_toArray, List.map_cons, List.map_nil]); first | done | rfl | (simp only [List.length_drop, List.length_take]; rfl)) ?_
      with_reducible refine (trace_At.calls (fun k_ => k_ ≠ gb118) _ _ y134 1 0 t137 t138 t139 t140 t141 t142 t143 _ ?side1 A1.out).mono ?_
      (case side1 => exact Kd.N_V (HO136.out))
      rintro e w38 ⟨v144, rfl, ho0, hb⟩
      refine ⟨_, rfl, ?_⟩
      have n0_ := Sd.mk (Kd.N_below (q30N HO136.out) hb)
      have n1_ := Sd.mk (Kd.V_lower (Kd.V_mono (ok' := fun k_ => k_ ≠ gb118) ho0 (fun k_ hk_ => Or.elim hk_ (fun hs_ => hs_) (fun hn_ => (Kd.freshB (g := gb118) (o := .cells #[.int .i64 1, .int .i64 0, .int .i64 0, .string (⟨#[97]⟩ : ByteArray)] 53 (0, 0)) blk_ k_ hn_)))) (below_size bel_))
      have n2_ := Sd.mk (blk_below (g := gb118) (o := .cells #[.int .i64 1, .int .i64 0, .int .i64 0, .string (⟨#[97]⟩ : ByteArray)] 53 (0, 0)) blk_ hb)
      have n3_ := Sd.mk (below_step bel_ hb)
      clear HO136
      clear BK118
      clear HB
      have HO136 := n0_
      have HO145 := n1_
      have BK118 := n2_
      have HB := n3_
      clear n0_ n1_ n2_ n3_
      (try clear hb)
      (try clear hb2)
      (try clear hk)
      (try clear hi)
      (try clear ho0)
      refine hK.out _ _ ⟨(blk_cell BK118.out 0).trans rfl, (blk_cell BK118.out 1).trans rfl, (blk_cell BK118.out 2).trans rfl, (blk_cell BK118.out 3).trans rfl⟩ (fun hHeld => ?_)
      clear hK K
      refine norm_ (a' := ?_) ?_ ?_
      rotate_left
      ·
       show Act.put _ (some 15) _ = _
       simp only [Act.put, List.setIfInBounds_toArray, List.set_cons_zero, List.set_cons_succ, i64_w, i32_w]
       rfl
      refine pure_ (i := 2) (N := some 16) (v := ?_) (a' := ?_) #[true,true,true,false,false,false,false,false,false,false,false,false,false,false,false,false,false,false,false,false,false,false,false,false,false,false,false,false,false,false,false,false,false,false,false,false,false,false,false,false] rfl rfl (any_of HT_.out (by kernel_rfl)) (fun _ _ _ h => h) (Or.inl ⟨by rfl, ?_⟩) ?_ ?_
      rotate_left
      ·
       intro w'
       go_simp
       with_reducible rfl
      rotate_left
      ·
       simp only [Act.put, List.setIfInBounds_toArray, List.set_cons_zero, List.set_cons_succ, i64_w, i32_w]
       rfl
      refine pure_ (i := 3) (N := some 17) (v := ?_) (a' := ?_) #[true,true,true,true,false,false,false,false,false,false,false,false,false,false,false,false,false,false,false,false,false,false,false,false,false,false,false,false,false,false,false,false,false,false,false,false,false,false,false,false] rfl rfl (any_of HT_.out (by kernel_rfl)) (fun _ _ _ h => h) (Or.inl ⟨by rfl, ?_⟩) ?_ ?_
      rotate_left
      ·
       intro w'
       go_simp
       with_reducible rfl
      rotate_left
      ·
       simp only [Act.put, List.setIfInBounds_toArray, List.set_cons_zero, List.set_cons_succ, i64_w, i32_w]
       rfl
      refine pure_ (i := 4) (N := some 18) (v := ?_) (a' := ?_) #[true,true,true,true,true,false,false,false,false,false,false,false,false,false,false,false,false,false,false,false,false,false,false,false,false,false,false,false,false,false,false,false,false,false,false,false,false,false,false,false] rfl rfl (any_of HT_.out (by kernel_rfl)) (fun _ _ _ h => h) (Or.inl ⟨by rfl, ?_⟩) ?_ ?_
      rotate_left
      ·
       intro w'
       go_simp
       with_reducible rfl
      rotate_left
      ·
       simp only [Act.put, List.setIfInBounds_toArray, List.set_cons_zero, List.set_cons_succ, i64_w, i32_w]
       rfl
      refine pure_ (i := 5) (N := some 19) (v := ?_) (a' := ?_) #[true,true,true,true,true,true,false,false,false,false,false,false,false,false,false,false,false,false,false,false,false,false,false,false,false,false,false,false,false,false,false,false,false,false,false,false,false,false,false,false] rfl rfl (any_of HT_.out (by kernel_rfl)) (fun _ _ _ h => h) (Or.inl ⟨by rfl, ?_⟩) ?_ ?_
      rotate_left
      ·
       intro w'
       go_simp
       with_reducible rfl
      rotate_left
      ·
       simp only [Act.put, List.setIfInBounds_toArray, List.set_cons_zero, List.set_cons_succ, i64_w, i32_w]
       rfl
      refine one_ (i := 6) (N := some 20) #[true,true,true,true,true,true,true,false,false,false,false,false,false,false,false,false,false,false,false,false,false,false,false,false,false,false,false,false,false,false,false,false,false,false,false,false,false,false,false,false] rfl rfl (one_of HT_.out (by kernel_rfl)) (by decide) (fun K hK => ?_)
      refine goes_ Try.func12 (by kernel_rfl) rfl #[.slice Ao36 y134.length co36, .int .i64 3, .int .i64 0] (by rfl) rfl rfl (by (try simp only [List.map_toArray, List.map_cons, List.map_nil]); first | done | rfl | (simp only [List.length_drop, List.length_take]; rfl)) ?_
      with_reducible refine (trace_At.calls (fun k_ => k_ ≠ gb118) _ _ y134 3 0 t146 t147 t148 t149 t150 t151 t152 _ ?side1 A3.out).mono ?_
      (case side1 => exact Kd.N_V (HO136.out))
      rintro e w39 ⟨v153, rfl, ho0, hb⟩
      refine ⟨_, rfl, ?_⟩
      have n0_ := Sd.mk (Kd.N_below (q30N HO136.out) hb)
      have n1_ := Sd.mk (Kd.V_below (q30V HO145.out) hb)
      have n2_ := Sd.mk (Kd.V_lower (Kd.V_mono (ok' := fun k_ => k_ ≠ gb118) ho0 (fun k_ hk_ => Or.elim hk_ (fun hs_ => hs_) (fun hn_ => (Kd.freshB (g := gb118) (o := .cells #[.int .i64 1, .int .i64 0, .int .i64 0, .string (⟨#[97]⟩ : ByteArray)] 53 (0, 0)) blk_ k_ hn_)))) (below_size bel_))
      have n3_ := Sd.mk (blk_below (g := gb118) (o := .cells #[.int .i64 1, .int .i64 0, .int .i64 0, .string (⟨#[97]⟩ : ByteArray)] 53 (0, 0)) blk_ hb)
      have n4_ := Sd.mk (below_step bel_ hb)
      clear HO136
      clear HO145
      clear BK118
      clear HB
      have HO136 := n0_
      have HO145 := n1_
      have HO154 := n2_
      have BK118 := n3_
      have HB := n4_
      clear n0_ n1_ n2_ n3_ n4_
      (try clear hb)
      (try clear hb2)
      (try clear hk)
      (try clear hi)
      (try clear ho0)
      refine hK.out _ _ ⟨(blk_cell BK118.out 0).trans rfl, (blk_cell BK118.out 1).trans rfl, (blk_cell BK118.out 2).trans rfl, (blk_cell BK118.out 3).trans rfl⟩ (fun hHeld => ?_)
      clear hK K
      refine norm_ (a' := ?_) ?_ ?_
      rotate_left
      ·
       show Act.put _ (some 20) _ = _
       simp only [Act.put, List.setIfInBounds_toArray, List.set_cons_zero, List.set_cons_succ, i64_w, i32_w]
       rfl
      refine pure_ (i := 7) (N := some 21) (v := ?_) (a' := ?_) #[true,true,true,true,true,true,true,true,false,false,false,false,false,false,false,false,false,false,false,false,false,false,false,false,false,false,false,false,false,false,false,false,false,false,false,false,false,false,false,false] rfl rfl (any_of HT_.out (by kernel_rfl)) (fun _ _ _ h => h) (Or.inl ⟨by rfl, ?_⟩) ?_ ?_
      rotate_left
      ·
       intro w'
       go_simp
       with_reducible rfl
      rotate_left
      ·
       simp only [Act.put, List.setIfInBounds_toArray, List.set_cons_zero, List.set_cons_succ, i64_w, i32_w]
       rfl
      refine pure_ (i := 8) (N := some 22) (v := ?_) (a' := ?_) #[true,true,true,true,true,true,true,true,true,false,false,false,false,false,false,false,false,false,false,false,false,false,false,false,false,false,false,false,false,false,false,false,false,false,false,false,false,false,false,false] rfl rfl (any_of HT_.out (by kernel_rfl)) (fun _ _ _ h => h) (Or.inl ⟨by rfl, ?_⟩) ?_ ?_
      rotate_left
      ·
       intro w'
       go_simp
       with_reducible rfl
      rotate_left
      ·
       simp only [Act.put, List.setIfInBounds_toArray, List.set_cons_zero, List.set_cons_succ, i64_w, i32_w]
       rfl
      refine pure_ (i := 9) (N := some 23) (v := ?_) (a' := ?_) #[true,true,true,true,true,true,true,true,true,true,false,false,false,false,false,false,false,false,false,false,false,false,false,false,false,false,false,false,false,false,false,false,false,false,false,false,false,false,false,false] rfl rfl (any_of HT_.out (by kernel_rfl)) (fun _ _ _ h => h) (Or.inl ⟨by rfl, ?_⟩) ?_ ?_
      rotate_left
      ·
       intro w'
       go_simp
       with_reducible rfl
      rotate_left
      ·
       simp only [Act.put, List.setIfInBounds_toArray, List.set_cons_zero, List.set_cons_succ, i64_w, i32_w]
       rfl
      refine pure_ (i := 10) (N := some 24) (v := ?_) (a' := ?_) #[true,true,true,true,true,true,true,true,true,true,true,false,false,false,false,false,false,false,false,false,false,false,false,false,false,false,false,false,false,false,false,false,false,false,false,false,false,false,false,false] rfl rfl (any_of HT_.out (by kernel_rfl)) (fun _ _ _ h => h) (Or.inl ⟨by rfl, ?_⟩) ?_ ?_
      rotate_left
      ·
       intro w'
       go_simp
       with_reducible rfl
      rotate_left
      ·
       simp only [Act.put, List.setIfInBounds_toArray, List.set_cons_zero, List.set_cons_succ, i64_w, i32_w]
       rfl
      refine pure_ (i := 11) (N := some 25) (v := ?_) (a' := ?_) #[true,true,true,true,true,true,true,true,true,true,true,true,false,false,false,false,false,false,false,false,false,false,false,false,false,false,false,false,false,false,false,false,false,false,false,false,false,false,false,false] rfl rfl (any_of HT_.out (by kernel_rfl)) (fun _ _ _ h => h) (Or.inl ⟨by rfl, ?_⟩) ?_ ?_
      rotate_left
      ·
       intro w'
       go_simp
       with_reducible rfl
      rotate_left
      ·
       simp only [Act.put, List.setIfInBounds_toArray, List.set_cons_zero, List.set_cons_succ, i64_w, i32_w]
       rfl
      refine join_ (σ := Value × Value × Value × Value × Value × Value × Value × Value × Value) 3 #[true,true,true,true,true,true,true,true,true,true,true,true,true,true,true,true,true,true,true,true,true,true,true,true,true,true,true,true,true,true,true,true,true,true,true,true,true,false,false,false] (fun s_ => [(26, s_.1), (27, s_.2.1), (28, .bool true), (32, s_.2.2.1), (33, s_.2.2.2.1), (34, .bool true), (38, s_.2.2.2.2.1), (40, s_.2.2.2.2.2.1), (41, .bool true), (45, s_.2.2.2.2.2.2.1), (47, s_.2.2.2.2.2.2.2.1), (50, s_.2.2.2.2.2.2.2.2), (29, .bool true), (30, .bool true), (31, .slice Ao36 y134.length co36), (35, .bool true), (36, .bool true), (37, .slice Ao36 y134.length co36), (39, .agg #[.int .i64 1, .int .i64 0, .int .i64 0, .string (⟨#[97]⟩ : ByteArray)]), (42, .bool true), (43, .bool true), (44, .slice Ao36 y134.length co36), (46, .agg #[.int .i64 1, .int .i64 0, .int .i64 0, .string (⟨#[97]⟩ : ByteArray)]), (48, .agg #[.int .i64 0, .int .i64 7, .string (⟨#[]⟩ : ByteArray), .bool false, s_.2.2.2.2.2.2.2.1]), (49, .agg #[.int .i64 2, .int .i64 8, .string (⟨#[]⟩ : ByteArray), .bool false, .slice none 0 0])]) (fun s_ w' => (w'.cell? ⟨gb118, 0, none⟩ = some (.int .i64 1) ∧ w'.cell? ⟨gb118, 1, none⟩ = some (.int .i64 0) ∧ w'.cell? ⟨gb118, 2, none⟩ = some (.int .i64 0) ∧ w'.cell? ⟨gb118, 3, none⟩ = some (.string (⟨#[97]⟩ : ByteArray))) ∧ (Kd.N (Kd.slice 28 k28) 51 w' w.heap.size (fun k_ => some k_ ≠ (s_.1 : Value).ownBlock ∧ some k_ ≠ (s_.2.1 : Value).ownBlock ∧ some k_ ≠ (s_.2.2.1 : Value).ownBlock ∧ some k_ ≠ (s_.2.2.2.1 : Value).ownBlock ∧ some k_ ≠ (s_.2.2.2.2.1 : Value).ownBlock ∧ some k_ ≠ (s_.2.2.2.2.2.1 : Value).ownBlock ∧ some k_ ≠ (s_.2.2.2.2.2.2.1 : Value).ownBlock ∧ some k_ ≠ (s_.2.2.2.2.2.2.2.2 : Value).ownBlock ∧ k_ ≠ gb118) (.slice Ao36 y134.length co36) y134) ∧ (Kd.V k53 53 w' w.heap.size (fun k_ => some k_ ≠ (s_.1 : Value).ownBlock ∧ some k_ ≠ (s_.2.1 : Value).ownBlock ∧ some k_ ≠ (s_.2.2.1 : Value).ownBlock ∧ some k_ ≠ (s_.2.2.2.1 : Value).ownBlock ∧ some k_ ≠ (s_.2.2.2.2.1 : Value).ownBlock ∧ some k_ ≠ (s_.2.2.2.2.2.1 : Value).ownBlock ∧ some k_ ≠ (s_.2.2.2.2.2.2.1 : Value).ownBlock ∧ some k_ ≠ (s_.2.2.2.2.2.2.2.2 : Value).ownBlock ∧ k_ ≠ gb118) v144 t143) ∧ (Kd.V k53 53 w' w.heap.size (fun k_ => some k_ ≠ (s_.1 : Value).ownBlock ∧ some k_ ≠ (s_.2.1 : Value).ownBlock ∧ some k_ ≠ (s_.2.2.1 : Value).ownBlock ∧ some k_ ≠ (s_.2.2.2.1 : Value).ownBlock ∧ some k_ ≠ (s_.2.2.2.2.1 : Value).ownBlock ∧ some k_ ≠ (s_.2.2.2.2.2.1 : Value).ownBlock ∧ some k_ ≠ (s_.2.2.2.2.2.2.1 : Value).ownBlock ∧ some k_ ≠ (s_.2.2.2.2.2.2.2.2 : Value).ownBlock ∧ k_ ≠ gb118) v153 t152) ∧ (Kd.R (Kd.int .i64) 3 w' w.heap.size (fun k_ => some k_ ≠ (s_.2.1 : Value).ownBlock ∧ some k_ ≠ (s_.2.2.1 : Value).ownBlock ∧ some k_ ≠ (s_.2.2.2.1 : Value).ownBlock) s_.1 t155) ∧ (Kd.R (Kd.int .i64) 3 w' w.heap.size (fun k_ => some k_ ≠ (s_.1 : Value).ownBlock ∧ some k_ ≠ (s_.2.2.1 : Value).ownBlock ∧ some k_ ≠ (s_.2.2.2.1 : Value).ownBlock) s_.2.1 y158) ∧ (Kd.R (Kd.int .i64) 3 w' w.heap.size (fun k_ => some k_ ≠ (s_.1 : Value).ownBlock ∧ some k_ ≠ (s_.2.1 : Value).ownBlock ∧ some k_ ≠ (s_.2.2.2.1 : Value).ownBlock) s_.2.2.1 t162) ∧ (Kd.R (Kd.int .i64) 3 w' w.heap.size (fun k_ => some k_ ≠ (s_.1 : Value).ownBlock ∧ some k_ ≠ (s_.2.1 : Value).ownBlock ∧ some k_ ≠ (s_.2.2.1 : Value).ownBlock) s_.2.2.2.1 y165) ∧ (Kd.R k53 53 w' w.heap.size (fun k_ => some k_ ≠ (s_.2.2.2.2.2.1 : Value).ownBlock ∧ k_ ≠ gb118) s_.2.2.2.2.1 t169) ∧ (Kd.R k53 53 w' w.heap.size (fun k_ => some k_ ≠ (s_.2.2.2.2.1 : Value).ownBlock ∧ k_ ≠ gb118) s_.2.2.2.2.2.1 y172) ∧ (Kd.N k40 40 w' w.heap.size (fun k_ => some k_ ≠ (.slice Ao36 y134.length co36 : Value).ownBlock ∧ some k_ ≠ (s_.1 : Value).ownBlock ∧ some k_ ≠ (s_.2.1 : Value).ownBlock ∧ some k_ ≠ (s_.2.2.1 : Value).ownBlock ∧ some k_ ≠ (s_.2.2.2.1 : Value).ownBlock ∧ some k_ ≠ (s_.2.2.2.2.1 : Value).ownBlock ∧ some k_ ≠ (s_.2.2.2.2.2.1 : Value).ownBlock ∧ some k_ ≠ (s_.2.2.2.2.2.2.2.2 : Value).ownBlock ∧ k_ ≠ gb118) s_.2.2.2.2.2.2.1 t176) ∧ (Kd.N k40 40 w' w.heap.size (fun k_ => some k_ ≠ (.slice Ao36 y134.length co36 : Value).ownBlock ∧ some k_ ≠ (s_.1 : Value).ownBlock ∧ some k_ ≠ (s_.2.1 : Value).ownBlock ∧ some k_ ≠ (s_.2.2.1 : Value).ownBlock ∧ some k_ ≠ (s_.2.2.2.1 : Value).ownBlock ∧ some k_ ≠ (s_.2.2.2.2.1 : Value).ownBlock ∧ some k_ ≠ (s_.2.2.2.2.2.1 : Value).ownBlock ∧ some k_ ≠ (s_.2.2.2.2.2.2.1 : Value).ownBlock ∧ k_ ≠ gb118) s_.2.2.2.2.2.2.2.2 y182) ∧ (w'.heap[gb118]? = some (.cells #[.int .i64 1, .int .i64 0, .int .i64 0, .string (⟨#[97]⟩ : ByteArray)] 53 (0, 0))) ∧ (Below w.heap.size w w')) ?_ ?_
      rotate_left
      ·
       intro hJ12_13_14_18_19_20_24_26_27_31_33_36
       refine join_ (σ := Value × Value × Value × Value × Value × Value × Value × Value) 4 #[true,true,true,true,true,true,true,true,true,true,true,true,true,true,true,true,true,true,true,true,true,true,true,true,true,true,true,true,true,true,true,true,true,true,true,true,false,false,false,false] (fun s_ => [(26, s_.1), (27, s_.2.1), (28, .bool true), (32, s_.2.2.1), (33, s_.2.2.2.1), (34, .bool true), (38, s_.2.2.2.2.1), (40, s_.2.2.2.2.2.1), (41, .bool true), (45, s_.2.2.2.2.2.2.1), (47, s_.2.2.2.2.2.2.2), (29, .bool true), (30, .bool true), (31, .slice Ao36 y134.length co36), (35, .bool true), (36, .bool true), (37, .slice Ao36 y134.length co36), (39, .agg #[.int .i64 1, .int .i64 0, .int .i64 0, .string (⟨#[97]⟩ : ByteArray)]), (42, .bool true), (43, .bool true), (44, .slice Ao36 y134.length co36), (46, .agg #[.int .i64 1, .int .i64 0, .int .i64 0, .string (⟨#[97]⟩ : ByteArray)]), (48, .agg #[.int .i64 0, .int .i64 7, .string (⟨#[]⟩ : ByteArray), .bool false, s_.2.2.2.2.2.2.2]), (49, .agg #[.int .i64 2, .int .i64 8, .string (⟨#[]⟩ : ByteArray), .bool false, .slice none 0 0])]) (fun s_ w' => (w'.cell? ⟨gb118, 0, none⟩ = some (.int .i64 1) ∧ w'.cell? ⟨gb118, 1, none⟩ = some (.int .i64 0) ∧ w'.cell? ⟨gb118, 2, none⟩ = some (.int .i64 0) ∧ w'.cell? ⟨gb118, 3, none⟩ = some (.string (⟨#[97]⟩ : ByteArray))) ∧ (Kd.N (Kd.slice 28 k28) 51 w' w.heap.size (fun k_ => some k_ ≠ (s_.1 : Value).ownBlock ∧ some k_ ≠ (s_.2.1 : Value).ownBlock ∧ some k_ ≠ (s_.2.2.1 : Value).ownBlock ∧ some k_ ≠ (s_.2.2.2.1 : Value).ownBlock ∧ some k_ ≠ (s_.2.2.2.2.1 : Value).ownBlock ∧ some k_ ≠ (s_.2.2.2.2.2.1 : Value).ownBlock ∧ some k_ ≠ (s_.2.2.2.2.2.2.1 : Value).ownBlock ∧ some k_ ≠ (s_.2.2.2.2.2.2.2 : Value).ownBlock ∧ k_ ≠ gb118) (.slice Ao36 y134.length co36) y134) ∧ (Kd.V k53 53 w' w.heap.size (fun k_ => some k_ ≠ (s_.1 : Value).ownBlock ∧ some k_ ≠ (s_.2.1 : Value).ownBlock ∧ some k_ ≠ (s_.2.2.1 : Value).ownBlock ∧ some k_ ≠ (s_.2.2.2.1 : Value).ownBlock ∧ some k_ ≠ (s_.2.2.2.2.1 : Value).ownBlock ∧ some k_ ≠ (s_.2.2.2.2.2.1 : Value).ownBlock ∧ some k_ ≠ (s_.2.2.2.2.2.2.1 : Value).ownBlock ∧ some k_ ≠ (s_.2.2.2.2.2.2.2 : Value).ownBlock ∧ k_ ≠ gb118) v144 t143) ∧ (Kd.V k53 53 w' w.heap.size (fun k_ => some k_ ≠ (s_.1 : Value).ownBlock ∧ some k_ ≠ (s_.2.1 : Value).ownBlock ∧ some k_ ≠ (s_.2.2.1 : Value).ownBlock ∧ some k_ ≠ (s_.2.2.2.1 : Value).ownBlock ∧ some k_ ≠ (s_.2.2.2.2.1 : Value).ownBlock ∧ some k_ ≠ (s_.2.2.2.2.2.1 : Value).ownBlock ∧ some k_ ≠ (s_.2.2.2.2.2.2.1 : Value).ownBlock ∧ some k_ ≠ (s_.2.2.2.2.2.2.2 : Value).ownBlock ∧ k_ ≠ gb118) v153 t152) ∧ (Kd.R (Kd.int .i64) 3 w' w.heap.size (fun k_ => some k_ ≠ (s_.2.1 : Value).ownBlock ∧ some k_ ≠ (s_.2.2.1 : Value).ownBlock ∧ some k_ ≠ (s_.2.2.2.1 : Value).ownBlock) s_.1 t155) ∧ (Kd.R (Kd.int .i64) 3 w' w.heap.size (fun k_ => some k_ ≠ (s_.1 : Value).ownBlock ∧ some k_ ≠ (s_.2.2.1 : Value).ownBlock ∧ some k_ ≠ (s_.2.2.2.1 : Value).ownBlock) s_.2.1 y158) ∧ (Kd.R (Kd.int .i64) 3 w' w.heap.size (fun k_ => some k_ ≠ (s_.1 : Value).ownBlock ∧ some k_ ≠ (s_.2.1 : Value).ownBlock ∧ some k_ ≠ (s_.2.2.2.1 : Value).ownBlock) s_.2.2.1 t162) ∧ (Kd.R (Kd.int .i64) 3 w' w.heap.size (fun k_ => some k_ ≠ (s_.1 : Value).ownBlock ∧ some k_ ≠ (s_.2.1 : Value).ownBlock ∧ some k_ ≠ (s_.2.2.1 : Value).ownBlock) s_.2.2.2.1 y165) ∧ (Kd.R k53 53 w' w.heap.size (fun k_ => some k_ ≠ (s_.2.2.2.2.2.1 : Value).ownBlock ∧ some k_ ≠ (s_.2.2.2.2.2.2.2 : Value).ownBlock ∧ k_ ≠ gb118) s_.2.2.2.2.1 t169) ∧ (Kd.R k53 53 w' w.heap.size (fun k_ => some k_ ≠ (s_.2.2.2.2.1 : Value).ownBlock ∧ some k_ ≠ (s_.2.2.2.2.2.2.2 : Value).ownBlock ∧ k_ ≠ gb118) s_.2.2.2.2.2.1 y172) ∧ (Kd.N k40 40 w' w.heap.size (fun k_ => some k_ ≠ (.slice Ao36 y134.length co36 : Value).ownBlock ∧ some k_ ≠ (s_.1 : Value).ownBlock ∧ some k_ ≠ (s_.2.1 : Value).ownBlock ∧ some k_ ≠ (s_.2.2.1 : Value).ownBlock ∧ some k_ ≠ (s_.2.2.2.1 : Value).ownBlock ∧ some k_ ≠ (s_.2.2.2.2.1 : Value).ownBlock ∧ some k_ ≠ (s_.2.2.2.2.2.1 : Value).ownBlock ∧ some k_ ≠ (s_.2.2.2.2.2.2.2 : Value).ownBlock ∧ k_ ≠ gb118) s_.2.2.2.2.2.2.1 t176) ∧ (Kd.R k53 53 w' w.heap.size (fun k_ => some k_ ≠ (s_.2.2.2.2.1 : Value).ownBlock ∧ some k_ ≠ (s_.2.2.2.2.2.1 : Value).ownBlock ∧ k_ ≠ gb118) s_.2.2.2.2.2.2.2 y179) ∧ (w'.heap[gb118]? = some (.cells #[.int .i64 1, .int .i64 0, .int .i64 0, .string (⟨#[97]⟩ : ByteArray)] 53 (0, 0))) ∧ (Below w.heap.size w w')) ?_ ?_
       rotate_left
       ·
        intro hJ12_13_14_18_19_20_24_26_27_31_33
        refine join_ (σ := Value × Value × Value × Value × Value × Value × Value × Value) 4 #[true,true,true,true,true,true,true,true,true,true,true,true,true,true,true,true,true,true,true,true,true,true,true,true,true,true,true,true,true,true,true,false,true,true,true,true,true,false,false,false] (fun s_ => [(26, s_.1), (27, s_.2.1), (28, .bool true), (32, s_.2.2.1), (33, s_.2.2.2.1), (34, .bool true), (38, s_.2.2.2.2.1), (40, s_.2.2.2.2.2.1), (41, .bool true), (47, s_.2.2.2.2.2.2.1), (50, s_.2.2.2.2.2.2.2), (29, .bool true), (30, .bool true), (31, .slice Ao36 y134.length co36), (35, .bool true), (36, .bool true), (37, .slice Ao36 y134.length co36), (39, .agg #[.int .i64 1, .int .i64 0, .int .i64 0, .string (⟨#[97]⟩ : ByteArray)]), (42, .bool true), (43, .bool true), (44, .slice Ao36 y134.length co36), (46, .agg #[.int .i64 1, .int .i64 0, .int .i64 0, .string (⟨#[97]⟩ : ByteArray)]), (48, .agg #[.int .i64 0, .int .i64 7, .string (⟨#[]⟩ : ByteArray), .bool false, s_.2.2.2.2.2.2.1]), (49, .agg #[.int .i64 2, .int .i64 8, .string (⟨#[]⟩ : ByteArray), .bool false, .slice none 0 0])]) (fun s_ w' => (w'.cell? ⟨gb118, 0, none⟩ = some (.int .i64 1) ∧ w'.cell? ⟨gb118, 1, none⟩ = some (.int .i64 0) ∧ w'.cell? ⟨gb118, 2, none⟩ = some (.int .i64 0) ∧ w'.cell? ⟨gb118, 3, none⟩ = some (.string (⟨#[97]⟩ : ByteArray))) ∧ (Kd.N (Kd.slice 28 k28) 51 w' w.heap.size (fun k_ => some k_ ≠ (s_.1 : Value).ownBlock ∧ some k_ ≠ (s_.2.1 : Value).ownBlock ∧ some k_ ≠ (s_.2.2.1 : Value).ownBlock ∧ some k_ ≠ (s_.2.2.2.1 : Value).ownBlock ∧ some k_ ≠ (s_.2.2.2.2.1 : Value).ownBlock ∧ some k_ ≠ (s_.2.2.2.2.2.1 : Value).ownBlock ∧ some k_ ≠ (s_.2.2.2.2.2.2.2 : Value).ownBlock ∧ k_ ≠ gb118) (.slice Ao36 y134.length co36) y134) ∧ (Kd.V k53 53 w' w.heap.size (fun k_ => some k_ ≠ (s_.1 : Value).ownBlock ∧ some k_ ≠ (s_.2.1 : Value).ownBlock ∧ some k_ ≠ (s_.2.2.1 : Value).ownBlock ∧ some k_ ≠ (s_.2.2.2.1 : Value).ownBlock ∧ some k_ ≠ (s_.2.2.2.2.1 : Value).ownBlock ∧ some k_ ≠ (s_.2.2.2.2.2.1 : Value).ownBlock ∧ some k_ ≠ (s_.2.2.2.2.2.2.2 : Value).ownBlock ∧ k_ ≠ gb118) v144 t143) ∧ (Kd.V k53 53 w' w.heap.size (fun k_ => some k_ ≠ (s_.1 : Value).ownBlock ∧ some k_ ≠ (s_.2.1 : Value).ownBlock ∧ some k_ ≠ (s_.2.2.1 : Value).ownBlock ∧ some k_ ≠ (s_.2.2.2.1 : Value).ownBlock ∧ some k_ ≠ (s_.2.2.2.2.1 : Value).ownBlock ∧ some k_ ≠ (s_.2.2.2.2.2.1 : Value).ownBlock ∧ some k_ ≠ (s_.2.2.2.2.2.2.2 : Value).ownBlock ∧ k_ ≠ gb118) v153 t152) ∧ (Kd.R (Kd.int .i64) 3 w' w.heap.size (fun k_ => some k_ ≠ (s_.2.1 : Value).ownBlock ∧ some k_ ≠ (s_.2.2.1 : Value).ownBlock ∧ some k_ ≠ (s_.2.2.2.1 : Value).ownBlock) s_.1 t155) ∧ (Kd.R (Kd.int .i64) 3 w' w.heap.size (fun k_ => some k_ ≠ (s_.1 : Value).ownBlock ∧ some k_ ≠ (s_.2.2.1 : Value).ownBlock ∧ some k_ ≠ (s_.2.2.2.1 : Value).ownBlock) s_.2.1 y158) ∧ (Kd.R (Kd.int .i64) 3 w' w.heap.size (fun k_ => some k_ ≠ (s_.1 : Value).ownBlock ∧ some k_ ≠ (s_.2.1 : Value).ownBlock ∧ some k_ ≠ (s_.2.2.2.1 : Value).ownBlock) s_.2.2.1 t162) ∧ (Kd.R (Kd.int .i64) 3 w' w.heap.size (fun k_ => some k_ ≠ (s_.1 : Value).ownBlock ∧ some k_ ≠ (s_.2.1 : Value).ownBlock ∧ some k_ ≠ (s_.2.2.1 : Value).ownBlock) s_.2.2.2.1 y165) ∧ (Kd.R k53 53 w' w.heap.size (fun k_ => some k_ ≠ (s_.2.2.2.2.2.1 : Value).ownBlock ∧ k_ ≠ gb118) s_.2.2.2.2.1 t169) ∧ (Kd.R k53 53 w' w.heap.size (fun k_ => some k_ ≠ (s_.2.2.2.2.1 : Value).ownBlock ∧ k_ ≠ gb118) s_.2.2.2.2.2.1 y172) ∧ (Kd.N k40 40 w' w.heap.size (fun k_ => some k_ ≠ (.slice Ao36 y134.length co36 : Value).ownBlock ∧ some k_ ≠ (s_.1 : Value).ownBlock ∧ some k_ ≠ (s_.2.1 : Value).ownBlock ∧ some k_ ≠ (s_.2.2.1 : Value).ownBlock ∧ some k_ ≠ (s_.2.2.2.1 : Value).ownBlock ∧ some k_ ≠ (s_.2.2.2.2.1 : Value).ownBlock ∧ some k_ ≠ (s_.2.2.2.2.2.1 : Value).ownBlock ∧ k_ ≠ gb118) s_.2.2.2.2.2.2.2 y182) ∧ (w'.heap[gb118]? = some (.cells #[.int .i64 1, .int .i64 0, .int .i64 0, .string (⟨#[97]⟩ : ByteArray)] 53 (0, 0))) ∧ (Below w.heap.size w w')) ?_ ?_
        rotate_left
        ·
         intro hJ12_13_14_18_19_20_24_26_27_33_36
         refine join_ (σ := Value × Value × Value × Value × Value × Value × Value) 6 #[true,true,true,true,true,true,true,true,true,true,true,true,true,true,true,true,true,true,true,true,true,true,true,true,true,true,true,true,true,true,true,true,true,false,false,true,false,false,false,false] (fun s_ => [(26, s_.1), (27, s_.2.1), (28, .bool true), (32, s_.2.2.1), (33, s_.2.2.2.1), (34, .bool true), (38, s_.2.2.2.2.1), (40, s_.2.2.2.2.2.1), (41, .bool true), (45, s_.2.2.2.2.2.2), (29, .bool true), (30, .bool true), (31, .slice Ao36 y134.length co36), (35, .bool true), (36, .bool true), (37, .slice Ao36 y134.length co36), (39, .agg #[.int .i64 1, .int .i64 0, .int .i64 0, .string (⟨#[97]⟩ : ByteArray)]), (42, .bool true), (43, .bool true), (44, .slice Ao36 y134.length co36), (46, .agg #[.int .i64 1, .int .i64 0, .int .i64 0, .string (⟨#[97]⟩ : ByteArray)]), (49, .agg #[.int .i64 2, .int .i64 8, .string (⟨#[]⟩ : ByteArray), .bool false, .slice none 0 0])]) (fun s_ w' => (w'.cell? ⟨gb118, 0, none⟩ = some (.int .i64 1) ∧ w'.cell? ⟨gb118, 1, none⟩ = some (.int .i64 0) ∧ w'.cell? ⟨gb118, 2, none⟩ = some (.int .i64 0) ∧ w'.cell? ⟨gb118, 3, none⟩ = some (.string (⟨#[97]⟩ : ByteArray))) ∧ (Kd.N (Kd.slice 28 k28) 51 w' w.heap.size (fun k_ => some k_ ≠ (s_.1 : Value).ownBlock ∧ some k_ ≠ (s_.2.1 : Value).ownBlock ∧ some k_ ≠ (s_.2.2.1 : Value).ownBlock ∧ some k_ ≠ (s_.2.2.2.1 : Value).ownBlock ∧ some k_ ≠ (s_.2.2.2.2.1 : Value).ownBlock ∧ some k_ ≠ (s_.2.2.2.2.2.1 : Value).ownBlock ∧ some k_ ≠ (s_.2.2.2.2.2.2 : Value).ownBlock ∧ k_ ≠ gb118) (.slice Ao36 y134.length co36) y134) ∧ (Kd.V k53 53 w' w.heap.size (fun k_ => some k_ ≠ (s_.1 : Value).ownBlock ∧ some k_ ≠ (s_.2.1 : Value).ownBlock ∧ some k_ ≠ (s_.2.2.1 : Value).ownBlock ∧ some k_ ≠ (s_.2.2.2.1 : Value).ownBlock ∧ some k_ ≠ (s_.2.2.2.2.1 : Value).ownBlock ∧ some k_ ≠ (s_.2.2.2.2.2.1 : Value).ownBlock ∧ some k_ ≠ (s_.2.2.2.2.2.2 : Value).ownBlock ∧ k_ ≠ gb118) v144 t143) ∧ (Kd.V k53 53 w' w.heap.size (fun k_ => some k_ ≠ (s_.1 : Value).ownBlock ∧ some k_ ≠ (s_.2.1 : Value).ownBlock ∧ some k_ ≠ (s_.2.2.1 : Value).ownBlock ∧ some k_ ≠ (s_.2.2.2.1 : Value).ownBlock ∧ some k_ ≠ (s_.2.2.2.2.1 : Value).ownBlock ∧ some k_ ≠ (s_.2.2.2.2.2.1 : Value).ownBlock ∧ some k_ ≠ (s_.2.2.2.2.2.2 : Value).ownBlock ∧ k_ ≠ gb118) v153 t152) ∧ (Kd.R (Kd.int .i64) 3 w' w.heap.size (fun k_ => some k_ ≠ (s_.2.1 : Value).ownBlock ∧ some k_ ≠ (s_.2.2.1 : Value).ownBlock ∧ some k_ ≠ (s_.2.2.2.1 : Value).ownBlock) s_.1 t155) ∧ (Kd.R (Kd.int .i64) 3 w' w.heap.size (fun k_ => some k_ ≠ (s_.1 : Value).ownBlock ∧ some k_ ≠ (s_.2.2.1 : Value).ownBlock ∧ some k_ ≠ (s_.2.2.2.1 : Value).ownBlock) s_.2.1 y158) ∧ (Kd.R (Kd.int .i64) 3 w' w.heap.size (fun k_ => some k_ ≠ (s_.1 : Value).ownBlock ∧ some k_ ≠ (s_.2.1 : Value).ownBlock ∧ some k_ ≠ (s_.2.2.2.1 : Value).ownBlock) s_.2.2.1 t162) ∧ (Kd.R (Kd.int .i64) 3 w' w.heap.size (fun k_ => some k_ ≠ (s_.1 : Value).ownBlock ∧ some k_ ≠ (s_.2.1 : Value).ownBlock ∧ some k_ ≠ (s_.2.2.1 : Value).ownBlock) s_.2.2.2.1 y165) ∧ (Kd.R k53 53 w' w.heap.size (fun k_ => some k_ ≠ (s_.2.2.2.2.2.1 : Value).ownBlock ∧ k_ ≠ gb118) s_.2.2.2.2.1 t169) ∧ (Kd.R k53 53 w' w.heap.size (fun k_ => some k_ ≠ (s_.2.2.2.2.1 : Value).ownBlock ∧ k_ ≠ gb118) s_.2.2.2.2.2.1 y172) ∧ (Kd.N k40 40 w' w.heap.size (fun k_ => some k_ ≠ (.slice Ao36 y134.length co36 : Value).ownBlock ∧ some k_ ≠ (s_.1 : Value).ownBlock ∧ some k_ ≠ (s_.2.1 : Value).ownBlock ∧ some k_ ≠ (s_.2.2.1 : Value).ownBlock ∧ some k_ ≠ (s_.2.2.2.1 : Value).ownBlock ∧ some k_ ≠ (s_.2.2.2.2.1 : Value).ownBlock ∧ some k_ ≠ (s_.2.2.2.2.2.1 : Value).ownBlock ∧ k_ ≠ gb118) s_.2.2.2.2.2.2 t176) ∧ (w'.heap[gb118]? = some (.cells #[.int .i64 1, .int .i64 0, .int .i64 0, .string (⟨#[97]⟩ : ByteArray)] 53 (0, 0))) ∧ (Below w.heap.size w w')) ?_ ?_
         rotate_left
         ·
          intro hJ12_13_14_18_19_20_24_26_27_31
          refine join_ (σ := Value × Value × Value × Value × Value × Value × Value) 5 #[true,true,true,true,true,true,true,true,true,true,true,true,true,true,true,true,true,true,true,true,true,true,true,true,true,true,true,true,true,true,true,false,true,true,true,true,false,false,false,false] (fun s_ => [(26, s_.1), (27, s_.2.1), (28, .bool true), (32, s_.2.2.1), (33, s_.2.2.2.1), (34, .bool true), (38, s_.2.2.2.2.1), (40, s_.2.2.2.2.2.1), (41, .bool true), (47, s_.2.2.2.2.2.2), (29, .bool true), (30, .bool true), (31, .slice Ao36 y134.length co36), (35, .bool true), (36, .bool true), (37, .slice Ao36 y134.length co36), (39, .agg #[.int .i64 1, .int .i64 0, .int .i64 0, .string (⟨#[97]⟩ : ByteArray)]), (42, .bool true), (43, .bool true), (44, .slice Ao36 y134.length co36), (46, .agg #[.int .i64 1, .int .i64 0, .int .i64 0, .string (⟨#[97]⟩ : ByteArray)]), (48, .agg #[.int .i64 0, .int .i64 7, .string (⟨#[]⟩ : ByteArray), .bool false, s_.2.2.2.2.2.2]), (49, .agg #[.int .i64 2, .int .i64 8, .string (⟨#[]⟩ : ByteArray), .bool false, .slice none 0 0])]) (fun s_ w' => (w'.cell? ⟨gb118, 0, none⟩ = some (.int .i64 1) ∧ w'.cell? ⟨gb118, 1, none⟩ = some (.int .i64 0) ∧ w'.cell? ⟨gb118, 2, none⟩ = some (.int .i64 0) ∧ w'.cell? ⟨gb118, 3, none⟩ = some (.string (⟨#[97]⟩ : ByteArray))) ∧ (Kd.N (Kd.slice 28 k28) 51 w' w.heap.size (fun k_ => some k_ ≠ (s_.1 : Value).ownBlock ∧ some k_ ≠ (s_.2.1 : Value).ownBlock ∧ some k_ ≠ (s_.2.2.1 : Value).ownBlock ∧ some k_ ≠ (s_.2.2.2.1 : Value).ownBlock ∧ some k_ ≠ (s_.2.2.2.2.1 : Value).ownBlock ∧ some k_ ≠ (s_.2.2.2.2.2.1 : Value).ownBlock ∧ some k_ ≠ (s_.2.2.2.2.2.2 : Value).ownBlock ∧ k_ ≠ gb118) (.slice Ao36 y134.length co36) y134) ∧ (Kd.V k53 53 w' w.heap.size (fun k_ => some k_ ≠ (s_.1 : Value).ownBlock ∧ some k_ ≠ (s_.2.1 : Value).ownBlock ∧ some k_ ≠ (s_.2.2.1 : Value).ownBlock ∧ some k_ ≠ (s_.2.2.2.1 : Value).ownBlock ∧ some k_ ≠ (s_.2.2.2.2.1 : Value).ownBlock ∧ some k_ ≠ (s_.2.2.2.2.2.1 : Value).ownBlock ∧ some k_ ≠ (s_.2.2.2.2.2.2 : Value).ownBlock ∧ k_ ≠ gb118) v144 t143) ∧ (Kd.V k53 53 w' w.heap.size (fun k_ => some k_ ≠ (s_.1 : Value).ownBlock ∧ some k_ ≠ (s_.2.1 : Value).ownBlock ∧ some k_ ≠ (s_.2.2.1 : Value).ownBlock ∧ some k_ ≠ (s_.2.2.2.1 : Value).ownBlock ∧ some k_ ≠ (s_.2.2.2.2.1 : Value).ownBlock ∧ some k_ ≠ (s_.2.2.2.2.2.1 : Value).ownBlock ∧ some k_ ≠ (s_.2.2.2.2.2.2 : Value).ownBlock ∧ k_ ≠ gb118) v153 t152) ∧ (Kd.R (Kd.int .i64) 3 w' w.heap.size (fun k_ => some k_ ≠ (s_.2.1 : Value).ownBlock ∧ some k_ ≠ (s_.2.2.1 : Value).ownBlock ∧ some k_ ≠ (s_.2.2.2.1 : Value).ownBlock) s_.1 t155) ∧ (Kd.R (Kd.int .i64) 3 w' w.heap.size (fun k_ => some k_ ≠ (s_.1 : Value).ownBlock ∧ some k_ ≠ (s_.2.2.1 : Value).ownBlock ∧ some k_ ≠ (s_.2.2.2.1 : Value).ownBlock) s_.2.1 y158) ∧ (Kd.R (Kd.int .i64) 3 w' w.heap.size (fun k_ => some k_ ≠ (s_.1 : Value).ownBlock ∧ some k_ ≠ (s_.2.1 : Value).ownBlock ∧ some k_ ≠ (s_.2.2.2.1 : Value).ownBlock) s_.2.2.1 t162) ∧ (Kd.R (Kd.int .i64) 3 w' w.heap.size (fun k_ => some k_ ≠ (s_.1 : Value).ownBlock ∧ some k_ ≠ (s_.2.1 : Value).ownBlock ∧ some k_ ≠ (s_.2.2.1 : Value).ownBlock) s_.2.2.2.1 y165) ∧ (Kd.R k53 53 w' w.heap.size (fun k_ => some k_ ≠ (s_.2.2.2.2.2.1 : Value).ownBlock ∧ some k_ ≠ (s_.2.2.2.2.2.2 : Value).ownBlock ∧ k_ ≠ gb118) s_.2.2.2.2.1 t169) ∧ (Kd.R k53 53 w' w.heap.size (fun k_ => some k_ ≠ (s_.2.2.2.2.1 : Value).ownBlock ∧ some k_ ≠ (s_.2.2.2.2.2.2 : Value).ownBlock ∧ k_ ≠ gb118) s_.2.2.2.2.2.1 y172) ∧ (Kd.R k53 53 w' w.heap.size (fun k_ => some k_ ≠ (s_.2.2.2.2.1 : Value).ownBlock ∧ some k_ ≠ (s_.2.2.2.2.2.1 : Value).ownBlock ∧ k_ ≠ gb118) s_.2.2.2.2.2.2 y179) ∧ (w'.heap[gb118]? = some (.cells #[.int .i64 1, .int .i64 0, .int .i64 0, .string (⟨#[97]⟩ : ByteArray)] 53 (0, 0))) ∧ (Below w.heap.size w w')) ?_ ?_
          rotate_left
          ·
           intro hJ12_13_14_18_19_20_24_26_27_33
           refine join_ (σ := Value × Value × Value × Value × Value × Value) 7 #[true,true,true,true,true,true,true,true,true,true,true,true,true,true,true,true,true,true,true,true,true,true,true,true,true,true,true,true,true,true,true,false,true,false,false,true,false,false,false,false] (fun s_ => [(26, s_.1), (27, s_.2.1), (28, .bool true), (32, s_.2.2.1), (33, s_.2.2.2.1), (34, .bool true), (38, s_.2.2.2.2.1), (40, s_.2.2.2.2.2), (41, .bool true), (29, .bool true), (30, .bool true), (31, .slice Ao36 y134.length co36), (35, .bool true), (36, .bool true), (37, .slice Ao36 y134.length co36), (39, .agg #[.int .i64 1, .int .i64 0, .int .i64 0, .string (⟨#[97]⟩ : ByteArray)]), (42, .bool true), (43, .bool true), (44, .slice Ao36 y134.length co36), (46, .agg #[.int .i64 1, .int .i64 0, .int .i64 0, .string (⟨#[97]⟩ : ByteArray)]), (49, .agg #[.int .i64 2, .int .i64 8, .string (⟨#[]⟩ : ByteArray), .bool false, .slice none 0 0])]) (fun s_ w' => (w'.cell? ⟨gb118, 0, none⟩ = some (.int .i64 1) ∧ w'.cell? ⟨gb118, 1, none⟩ = some (.int .i64 0) ∧ w'.cell? ⟨gb118, 2, none⟩ = some (.int .i64 0) ∧ w'.cell? ⟨gb118, 3, none⟩ = some (.string (⟨#[97]⟩ : ByteArray))) ∧ (Kd.N (Kd.slice 28 k28) 51 w' w.heap.size (fun k_ => some k_ ≠ (s_.1 : Value).ownBlock ∧ some k_ ≠ (s_.2.1 : Value).ownBlock ∧ some k_ ≠ (s_.2.2.1 : Value).ownBlock ∧ some k_ ≠ (s_.2.2.2.1 : Value).ownBlock ∧ some k_ ≠ (s_.2.2.2.2.1 : Value).ownBlock ∧ some k_ ≠ (s_.2.2.2.2.2 : Value).ownBlock ∧ k_ ≠ gb118) (.slice Ao36 y134.length co36) y134) ∧ (Kd.V k53 53 w' w.heap.size (fun k_ => some k_ ≠ (s_.1 : Value).ownBlock ∧ some k_ ≠ (s_.2.1 : Value).ownBlock ∧ some k_ ≠ (s_.2.2.1 : Value).ownBlock ∧ some k_ ≠ (s_.2.2.2.1 : Value).ownBlock ∧ some k_ ≠ (s_.2.2.2.2.1 : Value).ownBlock ∧ some k_ ≠ (s_.2.2.2.2.2 : Value).ownBlock ∧ k_ ≠ gb118) v144 t143) ∧ (Kd.V k53 53 w' w.heap.size (fun k_ => some k_ ≠ (s_.1 : Value).ownBlock ∧ some k_ ≠ (s_.2.1 : Value).ownBlock ∧ some k_ ≠ (s_.2.2.1 : Value).ownBlock ∧ some k_ ≠ (s_.2.2.2.1 : Value).ownBlock ∧ some k_ ≠ (s_.2.2.2.2.1 : Value).ownBlock ∧ some k_ ≠ (s_.2.2.2.2.2 : Value).ownBlock ∧ k_ ≠ gb118) v153 t152) ∧ (Kd.R (Kd.int .i64) 3 w' w.heap.size (fun k_ => some k_ ≠ (s_.2.1 : Value).ownBlock ∧ some k_ ≠ (s_.2.2.1 : Value).ownBlock ∧ some k_ ≠ (s_.2.2.2.1 : Value).ownBlock) s_.1 t155) ∧ (Kd.R (Kd.int .i64) 3 w' w.heap.size (fun k_ => some k_ ≠ (s_.1 : Value).ownBlock ∧ some k_ ≠ (s_.2.2.1 : Value).ownBlock ∧ some k_ ≠ (s_.2.2.2.1 : Value).ownBlock) s_.2.1 y158) ∧ (Kd.R (Kd.int .i64) 3 w' w.heap.size (fun k_ => some k_ ≠ (s_.1 : Value).ownBlock ∧ some k_ ≠ (s_.2.1 : Value).ownBlock ∧ some k_ ≠ (s_.2.2.2.1 : Value).ownBlock) s_.2.2.1 t162) ∧ (Kd.R (Kd.int .i64) 3 w' w.heap.size (fun k_ => some k_ ≠ (s_.1 : Value).ownBlock ∧ some k_ ≠ (s_.2.1 : Value).ownBlock ∧ some k_ ≠ (s_.2.2.1 : Value).ownBlock) s_.2.2.2.1 y165) ∧ (Kd.R k53 53 w' w.heap.size (fun k_ => some k_ ≠ (s_.2.2.2.2.2 : Value).ownBlock ∧ k_ ≠ gb118) s_.2.2.2.2.1 t169) ∧ (Kd.R k53 53 w' w.heap.size (fun k_ => some k_ ≠ (s_.2.2.2.2.1 : Value).ownBlock ∧ k_ ≠ gb118) s_.2.2.2.2.2 y172) ∧ (w'.heap[gb118]? = some (.cells #[.int .i64 1, .int .i64 0, .int .i64 0, .string (⟨#[97]⟩ : ByteArray)] 53 (0, 0))) ∧ (Below w.heap.size w w')) ?_ ?_
           rotate_left
           ·
            intro hJ12_13_14_18_19_20_24_26_27
            refine join_ (σ := Value × Value × Value × Value × Value × Value) 13 #[true,true,true,true,true,true,true,true,true,true,true,true,true,true,true,true,true,true,true,true,true,true,true,true,true,true,true,false,false,false,false,false,false,false,false,false,false,false,false,false] (fun s_ => [(26, s_.1), (27, s_.2.1), (28, .bool true), (32, s_.2.2.1), (33, s_.2.2.2.1), (34, .bool true), (38, s_.2.2.2.2.1), (40, s_.2.2.2.2.2), (29, .bool true), (30, .bool true), (31, .slice Ao36 y134.length co36), (35, .bool true), (36, .bool true), (37, .slice Ao36 y134.length co36), (39, .agg #[.int .i64 1, .int .i64 0, .int .i64 0, .string (⟨#[97]⟩ : ByteArray)])]) (fun s_ w' => (w'.cell? ⟨gb118, 0, none⟩ = some (.int .i64 1) ∧ w'.cell? ⟨gb118, 1, none⟩ = some (.int .i64 0) ∧ w'.cell? ⟨gb118, 2, none⟩ = some (.int .i64 0) ∧ w'.cell? ⟨gb118, 3, none⟩ = some (.string (⟨#[97]⟩ : ByteArray))) ∧ (Kd.N (Kd.slice 28 k28) 51 w' w.heap.size (fun k_ => some k_ ≠ (s_.1 : Value).ownBlock ∧ some k_ ≠ (s_.2.1 : Value).ownBlock ∧ some k_ ≠ (s_.2.2.1 : Value).ownBlock ∧ some k_ ≠ (s_.2.2.2.1 : Value).ownBlock ∧ some k_ ≠ (s_.2.2.2.2.1 : Value).ownBlock ∧ some k_ ≠ (s_.2.2.2.2.2 : Value).ownBlock ∧ k_ ≠ gb118) (.slice Ao36 y134.length co36) y134) ∧ (Kd.V k53 53 w' w.heap.size (fun k_ => some k_ ≠ (s_.1 : Value).ownBlock ∧ some k_ ≠ (s_.2.1 : Value).ownBlock ∧ some k_ ≠ (s_.2.2.1 : Value).ownBlock ∧ some k_ ≠ (s_.2.2.2.1 : Value).ownBlock ∧ some k_ ≠ (s_.2.2.2.2.1 : Value).ownBlock ∧ some k_ ≠ (s_.2.2.2.2.2 : Value).ownBlock ∧ k_ ≠ gb118) v144 t143) ∧ (Kd.V k53 53 w' w.heap.size (fun k_ => some k_ ≠ (s_.1 : Value).ownBlock ∧ some k_ ≠ (s_.2.1 : Value).ownBlock ∧ some k_ ≠ (s_.2.2.1 : Value).ownBlock ∧ some k_ ≠ (s_.2.2.2.1 : Value).ownBlock ∧ some k_ ≠ (s_.2.2.2.2.1 : Value).ownBlock ∧ some k_ ≠ (s_.2.2.2.2.2 : Value).ownBlock ∧ k_ ≠ gb118) v153 t152) ∧ (Kd.R (Kd.int .i64) 3 w' w.heap.size (fun k_ => some k_ ≠ (s_.2.1 : Value).ownBlock ∧ some k_ ≠ (s_.2.2.1 : Value).ownBlock ∧ some k_ ≠ (s_.2.2.2.1 : Value).ownBlock) s_.1 t155) ∧ (Kd.R (Kd.int .i64) 3 w' w.heap.size (fun k_ => some k_ ≠ (s_.1 : Value).ownBlock ∧ some k_ ≠ (s_.2.2.1 : Value).ownBlock ∧ some k_ ≠ (s_.2.2.2.1 : Value).ownBlock) s_.2.1 y158) ∧ (Kd.R (Kd.int .i64) 3 w' w.heap.size (fun k_ => some k_ ≠ (s_.1 : Value).ownBlock ∧ some k_ ≠ (s_.2.1 : Value).ownBlock ∧ some k_ ≠ (s_.2.2.2.1 : Value).ownBlock) s_.2.2.1 t162) ∧ (Kd.R (Kd.int .i64) 3 w' w.heap.size (fun k_ => some k_ ≠ (s_.1 : Value).ownBlock ∧ some k_ ≠ (s_.2.1 : Value).ownBlock ∧ some k_ ≠ (s_.2.2.1 : Value).ownBlock) s_.2.2.2.1 y165) ∧ (Kd.R k53 53 w' w.heap.size (fun k_ => some k_ ≠ (s_.2.2.2.2.2 : Value).ownBlock ∧ k_ ≠ gb118) s_.2.2.2.2.1 t169) ∧ (Kd.R k53 53 w' w.heap.size (fun k_ => some k_ ≠ (s_.2.2.2.2.1 : Value).ownBlock ∧ k_ ≠ gb118) s_.2.2.2.2.2 y172) ∧ (w'.heap[gb118]? = some (.cells #[.int .i64 1, .int .i64 0, .int .i64 0, .string (⟨#[97]⟩ : ByteArray)] 53 (0, 0))) ∧ (Below w.heap.size w w')) ?_ ?_
            rotate_left
            ·
             intro hJ12_13_14_18_19_20_24_26
             refine join_ (σ := Value × Value × Value × Value × Value) 14 #[true,true,true,true,true,true,true,true,true,true,true,true,true,true,true,true,true,true,true,true,true,true,true,true,true,true,false,false,false,false,false,false,false,false,false,false,false,false,false,false] (fun s_ => [(26, s_.1), (27, s_.2.1), (28, .bool true), (32, s_.2.2.1), (33, s_.2.2.2.1), (34, .bool true), (38, s_.2.2.2.2), (29, .bool true), (30, .bool true), (31, .slice Ao36 y134.length co36), (35, .bool true), (36, .bool true), (37, .slice Ao36 y134.length co36), (39, .agg #[.int .i64 1, .int .i64 0, .int .i64 0, .string (⟨#[97]⟩ : ByteArray)])]) (fun s_ w' => (w'.cell? ⟨gb118, 0, none⟩ = some (.int .i64 1) ∧ w'.cell? ⟨gb118, 1, none⟩ = some (.int .i64 0) ∧ w'.cell? ⟨gb118, 2, none⟩ = some (.int .i64 0) ∧ w'.cell? ⟨gb118, 3, none⟩ = some (.string (⟨#[97]⟩ : ByteArray))) ∧ (Kd.N (Kd.slice 28 k28) 51 w' w.heap.size (fun k_ => some k_ ≠ (s_.1 : Value).ownBlock ∧ some k_ ≠ (s_.2.1 : Value).ownBlock ∧ some k_ ≠ (s_.2.2.1 : Value).ownBlock ∧ some k_ ≠ (s_.2.2.2.1 : Value).ownBlock ∧ some k_ ≠ (s_.2.2.2.2 : Value).ownBlock ∧ k_ ≠ gb118) (.slice Ao36 y134.length co36) y134) ∧ (Kd.V k53 53 w' w.heap.size (fun k_ => some k_ ≠ (s_.1 : Value).ownBlock ∧ some k_ ≠ (s_.2.1 : Value).ownBlock ∧ some k_ ≠ (s_.2.2.1 : Value).ownBlock ∧ some k_ ≠ (s_.2.2.2.1 : Value).ownBlock ∧ some k_ ≠ (s_.2.2.2.2 : Value).ownBlock ∧ k_ ≠ gb118) v144 t143) ∧ (Kd.V k53 53 w' w.heap.size (fun k_ => some k_ ≠ (s_.1 : Value).ownBlock ∧ some k_ ≠ (s_.2.1 : Value).ownBlock ∧ some k_ ≠ (s_.2.2.1 : Value).ownBlock ∧ some k_ ≠ (s_.2.2.2.1 : Value).ownBlock ∧ some k_ ≠ (s_.2.2.2.2 : Value).ownBlock ∧ k_ ≠ gb118) v153 t152) ∧ (Kd.R (Kd.int .i64) 3 w' w.heap.size (fun k_ => some k_ ≠ (s_.2.1 : Value).ownBlock ∧ some k_ ≠ (s_.2.2.1 : Value).ownBlock ∧ some k_ ≠ (s_.2.2.2.1 : Value).ownBlock) s_.1 t155) ∧ (Kd.R (Kd.int .i64) 3 w' w.heap.size (fun k_ => some k_ ≠ (s_.1 : Value).ownBlock ∧ some k_ ≠ (s_.2.2.1 : Value).ownBlock ∧ some k_ ≠ (s_.2.2.2.1 : Value).ownBlock) s_.2.1 y158) ∧ (Kd.R (Kd.int .i64) 3 w' w.heap.size (fun k_ => some k_ ≠ (s_.1 : Value).ownBlock ∧ some k_ ≠ (s_.2.1 : Value).ownBlock ∧ some k_ ≠ (s_.2.2.2.1 : Value).ownBlock) s_.2.2.1 t162) ∧ (Kd.R (Kd.int .i64) 3 w' w.heap.size (fun k_ => some k_ ≠ (s_.1 : Value).ownBlock ∧ some k_ ≠ (s_.2.1 : Value).ownBlock ∧ some k_ ≠ (s_.2.2.1 : Value).ownBlock) s_.2.2.2.1 y165) ∧ (Kd.R k53 53 w' w.heap.size (fun k_ => k_ ≠ gb118) s_.2.2.2.2 t169) ∧ (w'.heap[gb118]? = some (.cells #[.int .i64 1, .int .i64 0, .int .i64 0, .string (⟨#[97]⟩ : ByteArray)] 53 (0, 0))) ∧ (Below w.heap.size w w')) ?_ ?_
             rotate_left
             ·
              intro hJ12_13_14_18_19_20_24
              refine join_ (σ := Value × Value × Value × Value × Value) 14 #[true,true,true,true,true,true,true,true,true,true,true,true,true,true,true,true,true,true,true,true,true,true,true,true,false,true,true,false,false,false,false,false,false,false,false,false,false,false,false,false] (fun s_ => [(26, s_.1), (27, s_.2.1), (28, .bool true), (32, s_.2.2.1), (33, s_.2.2.2.1), (34, .bool true), (40, s_.2.2.2.2), (29, .bool true), (30, .bool true), (31, .slice Ao36 y134.length co36), (35, .bool true), (36, .bool true), (37, .slice Ao36 y134.length co36), (39, .agg #[.int .i64 1, .int .i64 0, .int .i64 0, .string (⟨#[97]⟩ : ByteArray)])]) (fun s_ w' => (w'.cell? ⟨gb118, 0, none⟩ = some (.int .i64 1) ∧ w'.cell? ⟨gb118, 1, none⟩ = some (.int .i64 0) ∧ w'.cell? ⟨gb118, 2, none⟩ = some (.int .i64 0) ∧ w'.cell? ⟨gb118, 3, none⟩ = some (.string (⟨#[97]⟩ : ByteArray))) ∧ (Kd.N (Kd.slice 28 k28) 51 w' w.heap.size (fun k_ => some k_ ≠ (s_.1 : Value).ownBlock ∧ some k_ ≠ (s_.2.1 : Value).ownBlock ∧ some k_ ≠ (s_.2.2.1 : Value).ownBlock ∧ some k_ ≠ (s_.2.2.2.1 : Value).ownBlock ∧ some k_ ≠ (s_.2.2.2.2 : Value).ownBlock ∧ k_ ≠ gb118) (.slice Ao36 y134.length co36) y134) ∧ (Kd.V k53 53 w' w.heap.size (fun k_ => some k_ ≠ (s_.1 : Value).ownBlock ∧ some k_ ≠ (s_.2.1 : Value).ownBlock ∧ some k_ ≠ (s_.2.2.1 : Value).ownBlock ∧ some k_ ≠ (s_.2.2.2.1 : Value).ownBlock ∧ some k_ ≠ (s_.2.2.2.2 : Value).ownBlock ∧ k_ ≠ gb118) v144 t143) ∧ (Kd.V k53 53 w' w.heap.size (fun k_ => some k_ ≠ (s_.1 : Value).ownBlock ∧ some k_ ≠ (s_.2.1 : Value).ownBlock ∧ some k_ ≠ (s_.2.2.1 : Value).ownBlock ∧ some k_ ≠ (s_.2.2.2.1 : Value).ownBlock ∧ some k_ ≠ (s_.2.2.2.2 : Value).ownBlock ∧ k_ ≠ gb118) v153 t152) ∧ (Kd.R (Kd.int .i64) 3 w' w.heap.size (fun k_ => some k_ ≠ (s_.2.1 : Value).ownBlock ∧ some k_ ≠ (s_.2.2.1 : Value).ownBlock ∧ some k_ ≠ (s_.2.2.2.1 : Value).ownBlock) s_.1 t155) ∧ (Kd.R (Kd.int .i64) 3 w' w.heap.size (fun k_ => some k_ ≠ (s_.1 : Value).ownBlock ∧ some k_ ≠ (s_.2.2.1 : Value).ownBlock ∧ some k_ ≠ (s_.2.2.2.1 : Value).ownBlock) s_.2.1 y158) ∧ (Kd.R (Kd.int .i64) 3 w' w.heap.size (fun k_ => some k_ ≠ (s_.1 : Value).ownBlock ∧ some k_ ≠ (s_.2.1 : Value).ownBlock ∧ some k_ ≠ (s_.2.2.2.1 : Value).ownBlock) s_.2.2.1 t162) ∧ (Kd.R (Kd.int .i64) 3 w' w.heap.size (fun k_ => some k_ ≠ (s_.1 : Value).ownBlock ∧ some k_ ≠ (s_.2.1 : Value).ownBlock ∧ some k_ ≠ (s_.2.2.1 : Value).ownBlock) s_.2.2.2.1 y165) ∧ (Kd.R k53 53 w' w.heap.size (fun k_ => k_ ≠ gb118) s_.2.2.2.2 y172) ∧ (w'.heap[gb118]? = some (.cells #[.int .i64 1, .int .i64 0, .int .i64 0, .string (⟨#[97]⟩ : ByteArray)] 53 (0, 0))) ∧ (Below w.heap.size w w')) ?_ ?_
              rotate_left
              ·
               intro hJ12_13_14_18_19_20_26
               refine join_ (σ := Value × Value × Value × Value) 15 #[true,true,true,true,true,true,true,true,true,true,true,true,true,true,true,true,true,true,true,true,true,true,true,true,false,true,false,false,false,false,false,false,false,false,false,false,false,false,false,false] (fun s_ => [(26, s_.1), (27, s_.2.1), (28, .bool true), (32, s_.2.2.1), (33, s_.2.2.2), (34, .bool true), (29, .bool true), (30, .bool true), (31, .slice Ao36 y134.length co36), (35, .bool true), (36, .bool true), (37, .slice Ao36 y134.length co36), (39, .agg #[.int .i64 1, .int .i64 0, .int .i64 0, .string (⟨#[97]⟩ : ByteArray)])]) (fun s_ w' => (w'.cell? ⟨gb118, 0, none⟩ = some (.int .i64 1) ∧ w'.cell? ⟨gb118, 1, none⟩ = some (.int .i64 0) ∧ w'.cell? ⟨gb118, 2, none⟩ = some (.int .i64 0) ∧ w'.cell? ⟨gb118, 3, none⟩ = some (.string (⟨#[97]⟩ : ByteArray))) ∧ (Kd.N (Kd.slice 28 k28) 51 w' w.heap.size (fun k_ => some k_ ≠ (s_.1 : Value).ownBlock ∧ some k_ ≠ (s_.2.1 : Value).ownBlock ∧ some k_ ≠ (s_.2.2.1 : Value).ownBlock ∧ some k_ ≠ (s_.2.2.2 : Value).ownBlock ∧ k_ ≠ gb118) (.slice Ao36 y134.length co36) y134) ∧ (Kd.V k53 53 w' w.heap.size (fun k_ => some k_ ≠ (s_.1 : Value).ownBlock ∧ some k_ ≠ (s_.2.1 : Value).ownBlock ∧ some k_ ≠ (s_.2.2.1 : Value).ownBlock ∧ some k_ ≠ (s_.2.2.2 : Value).ownBlock ∧ k_ ≠ gb118) v144 t143) ∧ (Kd.V k53 53 w' w.heap.size (fun k_ => some k_ ≠ (s_.1 : Value).ownBlock ∧ some k_ ≠ (s_.2.1 : Value).ownBlock ∧ some k_ ≠ (s_.2.2.1 : Value).ownBlock ∧ some k_ ≠ (s_.2.2.2 : Value).ownBlock ∧ k_ ≠ gb118) v153 t152) ∧ (Kd.R (Kd.int .i64) 3 w' w.heap.size (fun k_ => some k_ ≠ (s_.2.1 : Value).ownBlock ∧ some k_ ≠ (s_.2.2.1 : Value).ownBlock ∧ some k_ ≠ (s_.2.2.2 : Value).ownBlock) s_.1 t155) ∧ (Kd.R (Kd.int .i64) 3 w' w.heap.size (fun k_ => some k_ ≠ (s_.1 : Value).ownBlock ∧ some k_ ≠ (s_.2.2.1 : Value).ownBlock ∧ some k_ ≠ (s_.2.2.2 : Value).ownBlock) s_.2.1 y158) ∧ (Kd.R (Kd.int .i64) 3 w' w.heap.size (fun k_ => some k_ ≠ (s_.1 : Value).ownBlock ∧ some k_ ≠ (s_.2.1 : Value).ownBlock ∧ some k_ ≠ (s_.2.2.2 : Value).ownBlock) s_.2.2.1 t162) ∧ (Kd.R (Kd.int .i64) 3 w' w.heap.size (fun k_ => some k_ ≠ (s_.1 : Value).ownBlock ∧ some k_ ≠ (s_.2.1 : Value).ownBlock ∧ some k_ ≠ (s_.2.2.1 : Value).ownBlock) s_.2.2.2 y165) ∧ (w'.heap[gb118]? = some (.cells #[.int .i64 1, .int .i64 0, .int .i64 0, .string (⟨#[97]⟩ : ByteArray)] 53 (0, 0))) ∧ (Below w.heap.size w w')) ?_ ?_
               rotate_left
               ·
                intro hJ12_13_14_18_19_20
                refine join_ (σ := Value × Value × Value × Value) 20 #[true,true,true,true,true,true,true,true,true,true,true,true,true,true,true,true,true,true,true,true,false,false,false,false,false,false,false,false,false,false,false,false,false,false,false,false,false,false,false,false] (fun s_ => [(26, s_.1), (27, s_.2.1), (28, .bool true), (32, s_.2.2.1), (33, s_.2.2.2), (29, .bool true), (30, .bool true), (31, .slice Ao36 y134.length co36)]) (fun s_ w' => (w'.cell? ⟨gb118, 0, none⟩ = some (.int .i64 1) ∧ w'.cell? ⟨gb118, 1, none⟩ = some (.int .i64 0) ∧ w'.cell? ⟨gb118, 2, none⟩ = some (.int .i64 0) ∧ w'.cell? ⟨gb118, 3, none⟩ = some (.string (⟨#[97]⟩ : ByteArray))) ∧ (Kd.N (Kd.slice 28 k28) 51 w' w.heap.size (fun k_ => some k_ ≠ (s_.1 : Value).ownBlock ∧ some k_ ≠ (s_.2.1 : Value).ownBlock ∧ some k_ ≠ (s_.2.2.1 : Value).ownBlock ∧ some k_ ≠ (s_.2.2.2 : Value).ownBlock ∧ k_ ≠ gb118) (.slice Ao36 y134.length co36) y134) ∧ (Kd.V k53 53 w' w.heap.size (fun k_ => some k_ ≠ (s_.1 : Value).ownBlock ∧ some k_ ≠ (s_.2.1 : Value).ownBlock ∧ some k_ ≠ (s_.2.2.1 : Value).ownBlock ∧ some k_ ≠ (s_.2.2.2 : Value).ownBlock ∧ k_ ≠ gb118) v144 t143) ∧ (Kd.V k53 53 w' w.heap.size (fun k_ => some k_ ≠ (s_.1 : Value).ownBlock ∧ some k_ ≠ (s_.2.1 : Value).ownBlock ∧ some k_ ≠ (s_.2.2.1 : Value).ownBlock ∧ some k_ ≠ (s_.2.2.2 : Value).ownBlock ∧ k_ ≠ gb118) v153 t152) ∧ (Kd.R (Kd.int .i64) 3 w' w.heap.size (fun k_ => some k_ ≠ (s_.2.1 : Value).ownBlock ∧ some k_ ≠ (s_.2.2.1 : Value).ownBlock ∧ some k_ ≠ (s_.2.2.2 : Value).ownBlock) s_.1 t155) ∧ (Kd.R (Kd.int .i64) 3 w' w.heap.size (fun k_ => some k_ ≠ (s_.1 : Value).ownBlock ∧ some k_ ≠ (s_.2.2.1 : Value).ownBlock ∧ some k_ ≠ (s_.2.2.2 : Value).ownBlock) s_.2.1 y158) ∧ (Kd.R (Kd.int .i64) 3 w' w.heap.size (fun k_ => some k_ ≠ (s_.1 : Value).ownBlock ∧ some k_ ≠ (s_.2.1 : Value).ownBlock ∧ some k_ ≠ (s_.2.2.2 : Value).ownBlock) s_.2.2.1 t162) ∧ (Kd.R (Kd.int .i64) 3 w' w.heap.size (fun k_ => some k_ ≠ (s_.1 : Value).ownBlock ∧ some k_ ≠ (s_.2.1 : Value).ownBlock ∧ some k_ ≠ (s_.2.2.1 : Value).ownBlock) s_.2.2.2 y165) ∧ (w'.heap[gb118]? = some (.cells #[.int .i64 1, .int .i64 0, .int .i64 0, .string (⟨#[97]⟩ : ByteArray)] 53 (0, 0))) ∧ (Below w.heap.size w w')) ?_ ?_
                rotate_left
                ·
                 intro hJ12_13_14_18_19
                 refine join_ (σ := Value × Value × Value) 21 #[true,true,true,true,true,true,true,true,true,true,true,true,true,true,true,true,true,true,true,false,false,false,false,false,false,false,false,false,false,false,false,false,false,false,false,false,false,false,false,false] (fun s_ => [(26, s_.1), (27, s_.2.1), (28, .bool true), (32, s_.2.2), (29, .bool true), (30, .bool true), (31, .slice Ao36 y134.length co36)]) (fun s_ w' => (w'.cell? ⟨gb118, 0, none⟩ = some (.int .i64 1) ∧ w'.cell? ⟨gb118, 1, none⟩ = some (.int .i64 0) ∧ w'.cell? ⟨gb118, 2, none⟩ = some (.int .i64 0) ∧ w'.cell? ⟨gb118, 3, none⟩ = some (.string (⟨#[97]⟩ : ByteArray))) ∧ (Kd.N (Kd.slice 28 k28) 51 w' w.heap.size (fun k_ => some k_ ≠ (s_.1 : Value).ownBlock ∧ some k_ ≠ (s_.2.1 : Value).ownBlock ∧ some k_ ≠ (s_.2.2 : Value).ownBlock ∧ k_ ≠ gb118) (.slice Ao36 y134.length co36) y134) ∧ (Kd.V k53 53 w' w.heap.size (fun k_ => some k_ ≠ (s_.1 : Value).ownBlock ∧ some k_ ≠ (s_.2.1 : Value).ownBlock ∧ some k_ ≠ (s_.2.2 : Value).ownBlock ∧ k_ ≠ gb118) v144 t143) ∧ (Kd.V k53 53 w' w.heap.size (fun k_ => some k_ ≠ (s_.1 : Value).ownBlock ∧ some k_ ≠ (s_.2.1 : Value).ownBlock ∧ some k_ ≠ (s_.2.2 : Value).ownBlock ∧ k_ ≠ gb118) v153 t152) ∧ (Kd.R (Kd.int .i64) 3 w' w.heap.size (fun k_ => some k_ ≠ (s_.2.1 : Value).ownBlock ∧ some k_ ≠ (s_.2.2 : Value).ownBlock) s_.1 t155) ∧ (Kd.R (Kd.int .i64) 3 w' w.heap.size (fun k_ => some k_ ≠ (s_.1 : Value).ownBlock ∧ some k_ ≠ (s_.2.2 : Value).ownBlock) s_.2.1 y158) ∧ (Kd.R (Kd.int .i64) 3 w' w.heap.size (fun k_ => some k_ ≠ (s_.1 : Value).ownBlock ∧ some k_ ≠ (s_.2.1 : Value).ownBlock) s_.2.2 t162) ∧ (w'.heap[gb118]? = some (.cells #[.int .i64 1, .int .i64 0, .int .i64 0, .string (⟨#[97]⟩ : ByteArray)] 53 (0, 0))) ∧ (Below w.heap.size w w')) ?_ ?_
                 rotate_left
                 ·
                  intro hJ12_13_14_18
                  refine join_ (σ := Value × Value × Value) 21 #[true,true,true,true,true,true,true,true,true,true,true,true,true,true,true,true,true,true,false,true,false,false,false,false,false,false,false,false,false,false,false,false,false,false,false,false,false,false,false,false] (fun s_ => [(26, s_.1), (27, s_.2.1), (28, .bool true), (33, s_.2.2), (29, .bool true), (30, .bool true), (31, .slice Ao36 y134.length co36)]) (fun s_ w' => (w'.cell? ⟨gb118, 0, none⟩ = some (.int .i64 1) ∧ w'.cell? ⟨gb118, 1, none⟩ = some (.int .i64 0) ∧ w'.cell? ⟨gb118, 2, none⟩ = some (.int .i64 0) ∧ w'.cell? ⟨gb118, 3, none⟩ = some (.string (⟨#[97]⟩ : ByteArray))) ∧ (Kd.N (Kd.slice 28 k28) 51 w' w.heap.size (fun k_ => some k_ ≠ (s_.1 : Value).ownBlock ∧ some k_ ≠ (s_.2.1 : Value).ownBlock ∧ some k_ ≠ (s_.2.2 : Value).ownBlock ∧ k_ ≠ gb118) (.slice Ao36 y134.length co36) y134) ∧ (Kd.V k53 53 w' w.heap.size (fun k_ => some k_ ≠ (s_.1 : Value).ownBlock ∧ some k_ ≠ (s_.2.1 : Value).ownBlock ∧ some k_ ≠ (s_.2.2 : Value).ownBlock ∧ k_ ≠ gb118) v144 t143) ∧ (Kd.V k53 53 w' w.heap.size (fun k_ => some k_ ≠ (s_.1 : Value).ownBlock ∧ some k_ ≠ (s_.2.1 : Value).ownBlock ∧ some k_ ≠ (s_.2.2 : Value).ownBlock ∧ k_ ≠ gb118) v153 t152) ∧ (Kd.R (Kd.int .i64) 3 w' w.heap.size (fun k_ => some k_ ≠ (s_.2.1 : Value).ownBlock ∧ some k_ ≠ (s_.2.2 : Value).ownBlock) s_.1 t155) ∧ (Kd.R (Kd.int .i64) 3 w' w.heap.size (fun k_ => some k_ ≠ (s_.1 : Value).ownBlock ∧ some k_ ≠ (s_.2.2 : Value).ownBlock) s_.2.1 y158) ∧ (Kd.R (Kd.int .i64) 3 w' w.heap.size (fun k_ => some k_ ≠ (s_.1 : Value).ownBlock ∧ some k_ ≠ (s_.2.1 : Value).ownBlock) s_.2.2 y165) ∧ (w'.heap[gb118]? = some (.cells #[.int .i64 1, .int .i64 0, .int .i64 0, .string (⟨#[97]⟩ : ByteArray)] 53 (0, 0))) ∧ (Below w.heap.size w w')) ?_ ?_
                  rotate_left
                  ·
                   intro hJ12_13_14_19
                   refine join_ (σ := Value × Value) 22 #[true,true,true,true,true,true,true,true,true,true,true,true,true,true,true,true,true,true,false,false,false,false,false,false,false,false,false,false,false,false,false,false,false,false,false,false,false,false,false,false] (fun s_ => [(26, s_.1), (27, s_.2), (28, .bool true), (29, .bool true), (30, .bool true), (31, .slice Ao36 y134.length co36)]) (fun s_ w' => (w'.cell? ⟨gb118, 0, none⟩ = some (.int .i64 1) ∧ w'.cell? ⟨gb118, 1, none⟩ = some (.int .i64 0) ∧ w'.cell? ⟨gb118, 2, none⟩ = some (.int .i64 0) ∧ w'.cell? ⟨gb118, 3, none⟩ = some (.string (⟨#[97]⟩ : ByteArray))) ∧ (Kd.N (Kd.slice 28 k28) 51 w' w.heap.size (fun k_ => some k_ ≠ (s_.1 : Value).ownBlock ∧ some k_ ≠ (s_.2 : Value).ownBlock ∧ k_ ≠ gb118) (.slice Ao36 y134.length co36) y134) ∧ (Kd.V k53 53 w' w.heap.size (fun k_ => some k_ ≠ (s_.1 : Value).ownBlock ∧ some k_ ≠ (s_.2 : Value).ownBlock ∧ k_ ≠ gb118) v144 t143) ∧ (Kd.V k53 53 w' w.heap.size (fun k_ => some k_ ≠ (s_.1 : Value).ownBlock ∧ some k_ ≠ (s_.2 : Value).ownBlock ∧ k_ ≠ gb118) v153 t152) ∧ (Kd.R (Kd.int .i64) 3 w' w.heap.size (fun k_ => some k_ ≠ (s_.2 : Value).ownBlock) s_.1 t155) ∧ (Kd.R (Kd.int .i64) 3 w' w.heap.size (fun k_ => some k_ ≠ (s_.1 : Value).ownBlock) s_.2 y158) ∧ (w'.heap[gb118]? = some (.cells #[.int .i64 1, .int .i64 0, .int .i64 0, .string (⟨#[97]⟩ : ByteArray)] 53 (0, 0))) ∧ (Below w.heap.size w w')) ?_ ?_
                   rotate_left
                   ·
                    intro hJ12_13_14
                    refine join_ (σ := Value × Value) 26 #[true,true,true,true,true,true,true,true,true,true,true,true,true,true,false,false,false,false,false,false,false,false,false,false,false,false,false,false,false,false,false,false,false,false,false,false,false,false,false,false] (fun s_ => [(26, s_.1), (27, s_.2)]) (fun s_ w' => (w'.cell? ⟨gb118, 0, none⟩ = some (.int .i64 1) ∧ w'.cell? ⟨gb118, 1, none⟩ = some (.int .i64 0) ∧ w'.cell? ⟨gb118, 2, none⟩ = some (.int .i64 0) ∧ w'.cell? ⟨gb118, 3, none⟩ = some (.string (⟨#[97]⟩ : ByteArray))) ∧ (Kd.N (Kd.slice 28 k28) 51 w' w.heap.size (fun k_ => some k_ ≠ (s_.1 : Value).ownBlock ∧ some k_ ≠ (s_.2 : Value).ownBlock ∧ k_ ≠ gb118) (.slice Ao36 y134.length co36) y134) ∧ (Kd.V k53 53 w' w.heap.size (fun k_ => some k_ ≠ (s_.1 : Value).ownBlock ∧ some k_ ≠ (s_.2 : Value).ownBlock ∧ k_ ≠ gb118) v144 t143) ∧ (Kd.V k53 53 w' w.heap.size (fun k_ => some k_ ≠ (s_.1 : Value).ownBlock ∧ some k_ ≠ (s_.2 : Value).ownBlock ∧ k_ ≠ gb118) v153 t152) ∧ (Kd.R (Kd.int .i64) 3 w' w.heap.size (fun k_ => some k_ ≠ (s_.2 : Value).ownBlock) s_.1 t155) ∧ (Kd.R (Kd.int .i64) 3 w' w.heap.size (fun k_ => some k_ ≠ (s_.1 : Value).ownBlock) s_.2 y158) ∧ (w'.heap[gb118]? = some (.cells #[.int .i64 1, .int .i64 0, .int .i64 0, .string (⟨#[97]⟩ : ByteArray)] 53 (0, 0))) ∧ (Below w.heap.size w w')) ?_ ?_
                    rotate_left
                    ·
                     intro hJ12_13
                     refine join_ (σ := Value) 27 #[true,true,true,true,true,true,true,true,true,true,true,true,true,false,false,false,false,false,false,false,false,false,false,false,false,false,false,false,false,false,false,false,false,false,false,false,false,false,false,false] (fun s_ => [(26, s_)]) (fun s_ w' => (w'.cell? ⟨gb118, 0, none⟩ = some (.int .i64 1) ∧ w'.cell? ⟨gb118, 1, none⟩ = some (.int .i64 0) ∧ w'.cell? ⟨gb118, 2, none⟩ = some (.int .i64 0) ∧ w'.cell? ⟨gb118, 3, none⟩ = some (.string (⟨#[97]⟩ : ByteArray))) ∧ (Kd.N (Kd.slice 28 k28) 51 w' w.heap.size (fun k_ => some k_ ≠ (s_ : Value).ownBlock ∧ k_ ≠ gb118) (.slice Ao36 y134.length co36) y134) ∧ (Kd.V k53 53 w' w.heap.size (fun k_ => some k_ ≠ (s_ : Value).ownBlock ∧ k_ ≠ gb118) v144 t143) ∧ (Kd.V k53 53 w' w.heap.size (fun k_ => some k_ ≠ (s_ : Value).ownBlock ∧ k_ ≠ gb118) v153 t152) ∧ (Kd.R (Kd.int .i64) 3 w' w.heap.size (fun _ => True) s_ t155) ∧ (w'.heap[gb118]? = some (.cells #[.int .i64 1, .int .i64 0, .int .i64 0, .string (⟨#[97]⟩ : ByteArray)] 53 (0, 0))) ∧ (Below w.heap.size w w')) ?_ ?_
                     rotate_left
                     ·
                      intro hJ12
                      refine join_ (σ := Value) 27 #[true,true,true,true,true,true,true,true,true,true,true,true,false,true,false,false,false,false,false,false,false,false,false,false,false,false,false,false,false,false,false,false,false,false,false,false,false,false,false,false] (fun s_ => [(27, s_)]) (fun s_ w' => (w'.cell? ⟨gb118, 0, none⟩ = some (.int .i64 1) ∧ w'.cell? ⟨gb118, 1, none⟩ = some (.int .i64 0) ∧ w'.cell? ⟨gb118, 2, none⟩ = some (.int .i64 0) ∧ w'.cell? ⟨gb118, 3, none⟩ = some (.string (⟨#[97]⟩ : ByteArray))) ∧ (Kd.N (Kd.slice 28 k28) 51 w' w.heap.size (fun k_ => some k_ ≠ (s_ : Value).ownBlock ∧ k_ ≠ gb118) (.slice Ao36 y134.length co36) y134) ∧ (Kd.V k53 53 w' w.heap.size (fun k_ => some k_ ≠ (s_ : Value).ownBlock ∧ k_ ≠ gb118) v144 t143) ∧ (Kd.V k53 53 w' w.heap.size (fun k_ => some k_ ≠ (s_ : Value).ownBlock ∧ k_ ≠ gb118) v153 t152) ∧ (Kd.R (Kd.int .i64) 3 w' w.heap.size (fun _ => True) s_ y158) ∧ (w'.heap[gb118]? = some (.cells #[.int .i64 1, .int .i64 0, .int .i64 0, .string (⟨#[97]⟩ : ByteArray)] 53 (0, 0))) ∧ (Below w.heap.size w w')) ?_ ?_
                      rotate_left
                      ·
                       intro hJ13
                       refine two_ (i := 12) (j := 13) (Ni := some 26) (Nj := some 27) #[true,true,true,true,true,true,true,true,true,true,true,true,true,false,false,false,false,false,false,false,false,false,false,false,false,false,false,false,false,false,false,false,false,false,false,false,false,false,false,false] #[true,true,true,true,true,true,true,true,true,true,true,true,false,true,false,false,false,false,false,false,false,false,false,false,false,false,false,false,false,false,false,false,false,false,false,false,false,false,false,false] rfl rfl rfl rfl (two_of HT_.out (by kernel_rfl)) (by decide) (by decide) (fun K hK => ?_) (fun K hK => ?_)
                       ·
                        skip
                        refine goes_ Try.func15 (by kernel_rfl) rfl #[.slice Ao36 y134.length co36, .int .i64 0] (by rfl) rfl rfl (by (try simp only [List.map_toArray, List.map_cons, List.map_nil]); first | done | rfl | (simp only [List.length_drop, List.length_take]; rfl)) ?_
                        with_reducible refine (trace_Pulses.calls _ _ y134 0 t155 _ ?side1 ?side2 A5.out).mono ?_
                        (case side1 => repeat (first | exact (Kd.N_reads' HO136.out).2.2 | (with_reducible refine Kd.C_alloc ?_ _) | (with_reducible refine Kd.C_drewN ?_ _) | (with_reducible refine Kd.C_drew ?_)))
                        (case side2 => exact (Kd.N_reads' HO136.out).2.1)
                        rintro e w40 ⟨v156, rfl, ho0, hb⟩
                        refine ⟨_, rfl, ?_⟩
                        have n0_ := Sd.mk (Kd.N_elder' (q30N HO136.out) (Kd.R_base ho0) hb)
                        have n1_ := Sd.mk (Kd.V_elder' (q30V HO145.out) (Kd.R_base ho0) hb)
                        have n2_ := Sd.mk (Kd.V_elder' (q30V HO154.out) (Kd.R_base ho0) hb)
                        have n3_ := Sd.mk (Kd.R_lower ho0 (below_size bel_))
                        have n4_ := Sd.mk (blk_below (g := gb118) (o := .cells #[.int .i64 1, .int .i64 0, .int .i64 0, .string (⟨#[97]⟩ : ByteArray)] 53 (0, 0)) blk_ hb)
                        have n5_ := Sd.mk (below_step bel_ hb)
                        clear HO136
                        clear HO145
                        clear HO154
                        clear BK118
                        clear HB
                        have HO136 := n0_
                        have HO145 := n1_
                        have HO154 := n2_
                        have HO157 := n3_
                        have BK118 := n4_
                        have HB := n5_
                        clear n0_ n1_ n2_ n3_ n4_ n5_
                        (try clear hb)
                        (try clear hb2)
                        (try clear hk)
                        (try clear hi)
                        (try clear ho0)
                        refine hK.out _ _ ⟨(blk_cell BK118.out 0).trans rfl, (blk_cell BK118.out 1).trans rfl, (blk_cell BK118.out 2).trans rfl, (blk_cell BK118.out 3).trans rfl⟩ (fun hHeld => ?_)
                        clear hK K
                        refine norm_ (a' := ?_) ?_ ?_
                        rotate_left
                        ·
                         show Act.put _ (some 26) _ = _
                         simp only [Act.put, List.setIfInBounds_toArray, List.set_cons_zero, List.set_cons_succ, i64_w, i32_w]
                         rfl
                        exact norm_ (by first | (simp only [putAll, Act.put, List.setIfInBounds_toArray, List.set_cons_zero, List.set_cons_succ]; done) | (simp only [putAll, Act.put, List.setIfInBounds_toArray, List.set_cons_zero, List.set_cons_succ]; rfl)) (hJ12 (v156) _ ⟨hHeld, (by (with_reducible repeat (first | apply Kd.N_alloc | apply Kd.N_drewN | apply Kd.N_drew)); exact Kd.N_mono HO136.out (fun _ hk => ⟨hk.2, hk.1⟩)), (by (with_reducible repeat (first | apply Kd.V_alloc | apply Kd.V_drewN | apply Kd.V_drew)); exact Kd.V_mono HO145.out (fun _ hk => ⟨hk.2, hk.1⟩)), (by (with_reducible repeat (first | apply Kd.V_alloc | apply Kd.V_drewN | apply Kd.V_drew)); exact Kd.V_mono HO154.out (fun _ hk => ⟨hk.2, hk.1⟩)), (q30R HO157.out), blk_, bel_⟩)
                       ·
                        skip
                        refine Kd.R_lit_step (Kd.int .i64) _ 3 ?hg (N := 27) ?hd (xs := ([0, 2] : List Int)) (inner := [.int .i64 0, .int .i64 2]) (ok := fun _ => True) (okp := fun _ => True) ?hr ?hp (fun _ hk => hk) trivial (Below.refl _ _) (Nat.le_refl _) (by simp) ?_; (case hd => rfl); (case hg => rfl); (case hr => first | (go_simp; done) | (go_simp; rfl)); (case hp => exact (Reps.one (show Kd.M (Kd.int .i64) _ _ _ 0 [.int .i64 0] from rfl) (Reps.one (show Kd.M (Kd.int .i64) _ _ _ 2 [.int .i64 2] from rfl) (Reps.none _ _))))
                        intro v159 w40 ho41 hb hg_ hnew_
                        clear hg_ hnew_
                        (first | rw [← Ny158.out] at ho41 | (simp only [Int.reduceToNat] at ho41; rw [← Ny158.out] at ho41))
                        have n0_ := Sd.mk (Kd.N_elder' (q30N HO136.out) (Kd.R_base ho41) hb)
                        have n1_ := Sd.mk (Kd.V_elder' (q30V HO145.out) (Kd.R_base ho41) hb)
                        have n2_ := Sd.mk (Kd.V_elder' (q30V HO154.out) (Kd.R_base ho41) hb)
                        have n3_ := Sd.mk (Kd.R_lower ho41 (below_size bel_))
                        have n4_ := Sd.mk (blk_below (g := gb118) (o := .cells #[.int .i64 1, .int .i64 0, .int .i64 0, .string (⟨#[97]⟩ : ByteArray)] 53 (0, 0)) blk_ hb)
                        have n5_ := Sd.mk (below_step bel_ hb)
                        clear HO136
                        clear HO145
                        clear HO154
                        clear BK118
                        clear HB
                        have HO136 := n0_
                        have HO145 := n1_
                        have HO154 := n2_
                        have HO160 := n3_
                        have BK118 := n4_
                        have HB := n5_
                        clear n0_ n1_ n2_ n3_ n4_ n5_
                        clear hb ho41
                        refine hK.out _ _ ⟨(blk_cell BK118.out 0).trans rfl, (blk_cell BK118.out 1).trans rfl, (blk_cell BK118.out 2).trans rfl, (blk_cell BK118.out 3).trans rfl⟩ (fun hHeld => ?_)
                        clear hK K
                        refine norm_ (a' := ?_) ?_ ?_
                        rotate_left
                        ·
                         show Act.put _ (some 27) _ = _
                         simp only [Act.put, List.setIfInBounds_toArray, List.set_cons_zero, List.set_cons_succ, i64_w, i32_w]
                         rfl
                        exact norm_ (by first | (simp only [putAll, Act.put, List.setIfInBounds_toArray, List.set_cons_zero, List.set_cons_succ]; done) | (simp only [putAll, Act.put, List.setIfInBounds_toArray, List.set_cons_zero, List.set_cons_succ]; rfl)) (hJ13 (v159) _ ⟨hHeld, (by (with_reducible repeat (first | apply Kd.N_alloc | apply Kd.N_drewN | apply Kd.N_drew)); exact Kd.N_mono HO136.out (fun _ hk => ⟨hk.2, hk.1⟩)), (by (with_reducible repeat (first | apply Kd.V_alloc | apply Kd.V_drewN | apply Kd.V_drew)); exact Kd.V_mono HO145.out (fun _ hk => ⟨hk.2, hk.1⟩)), (by (with_reducible repeat (first | apply Kd.V_alloc | apply Kd.V_drewN | apply Kd.V_drew)); exact Kd.V_mono HO154.out (fun _ hk => ⟨hk.2, hk.1⟩)), (q30R HO160.out), blk_, bel_⟩)
                      ·
                       skip
                       rintro v159 w42 ⟨hS_, h0_, h1_, h2_, h3_, h4_, h5_⟩
                       have n0_ : Sd (Kd.N (Kd.slice 28 k28) 51 w42 w.heap.size (fun k_ => some k_ ≠ (v159 : Value).ownBlock ∧ k_ ≠ gb118) (.slice Ao36 y134.length co36) y134) := ⟨h0_⟩
                       have n1_ : Sd (Kd.V k53 53 w42 w.heap.size (fun k_ => some k_ ≠ (v159 : Value).ownBlock ∧ k_ ≠ gb118) v144 t143) := ⟨h1_⟩
                       have n2_ : Sd (Kd.V k53 53 w42 w.heap.size (fun k_ => some k_ ≠ (v159 : Value).ownBlock ∧ k_ ≠ gb118) v153 t152) := ⟨h2_⟩
                       have n3_ : Sd (Kd.R (Kd.int .i64) 3 w42 w.heap.size (fun _ => True) v159 y158) := ⟨h3_⟩
                       have n4_ : Sd (w42.heap[gb118]? = some (.cells #[.int .i64 1, .int .i64 0, .int .i64 0, .string (⟨#[97]⟩ : ByteArray)] 53 (0, 0))) := ⟨h4_⟩
                       have n5_ : Sd (Below w.heap.size w w42) := ⟨h5_⟩
                       clear HO136
                       clear BK118
                       clear HB
                       clear h0_ h1_ h2_ h3_ h4_ h5_
                       have HO136 := n0_
                       have HO145 := n1_
                       have HO154 := n2_
                       have HO160 := n3_
                       have BK118 := n4_
                       have HB := n5_
                       clear n0_ n1_ n2_ n3_ n4_ n5_
                       have hHeld : w42.cell? ⟨gb118, 0, none⟩ = some (.int .i64 1) ∧ w42.cell? ⟨gb118, 1, none⟩ = some (.int .i64 0) ∧ w42.cell? ⟨gb118, 2, none⟩ = some (.int .i64 0) ∧ w42.cell? ⟨gb118, 3, none⟩ = some (.string (⟨#[97]⟩ : ByteArray)) := hS_
                       refine norm_ (a' := ?_) ?_ ?_
                       rotate_left
                       ·
                        simp only [putAll, Act.put, List.setIfInBounds_toArray, List.set_cons_zero, List.set_cons_succ]
                        rfl
                       refine one_ (i := 12) (N := some 26) #[true,true,true,true,true,true,true,true,true,true,true,true,true,true,false,false,false,false,false,false,false,false,false,false,false,false,false,false,false,false,false,false,false,false,false,false,false,false,false,false] rfl rfl (one_of HT_.out (by kernel_rfl)) (by decide) (fun K hK => ?_)
                       refine goes_ Try.func15 (by kernel_rfl) rfl #[.slice Ao36 y134.length co36, .int .i64 0] (by rfl) rfl rfl (by (try simp only [List.map_toArray, List.map_cons, List.map_nil]); first | done | rfl | (simp only [List.length_drop, List.length_take]; rfl)) ?_
                       with_reducible refine (trace_Pulses.calls _ _ y134 0 t155 _ ?side1 ?side2 A5.out).mono ?_
                       (case side1 => repeat (first | exact (Kd.N_reads' HO136.out).2.2 | (with_reducible refine Kd.C_alloc ?_ _) | (with_reducible refine Kd.C_drewN ?_ _) | (with_reducible refine Kd.C_drew ?_)))
                       (case side2 => exact (Kd.N_reads' HO136.out).2.1)
                       rintro e w43 ⟨v156, rfl, ho0, hb⟩
                       refine ⟨_, rfl, ?_⟩
                       have n0_ := Sd.mk (Kd.N_elder' (q30N HO136.out) (Kd.R_base ho0) hb)
                       have n1_ := Sd.mk (Kd.V_elder' (q30V HO145.out) (Kd.R_base ho0) hb)
                       have n2_ := Sd.mk (Kd.V_elder' (q30V HO154.out) (Kd.R_base ho0) hb)
                       have n3_ := Sd.mk (Kd.R_elder' (q30R HO160.out) (Kd.R_base ho0) hb)
                       have n4_ := Sd.mk (Kd.R_lower (Kd.R_new' ho0 (Kd.R_lt (q30R HO160.out))) (below_size bel_))
                       have n5_ := Sd.mk (blk_below (g := gb118) (o := .cells #[.int .i64 1, .int .i64 0, .int .i64 0, .string (⟨#[97]⟩ : ByteArray)] 53 (0, 0)) blk_ hb)
                       have n6_ := Sd.mk (below_step bel_ hb)
                       clear HO136
                       clear HO145
                       clear HO154
                       clear HO160
                       clear BK118
                       clear HB
                       have HO136 := n0_
                       have HO145 := n1_
                       have HO154 := n2_
                       have HO160 := n3_
                       have HO157 := n4_
                       have BK118 := n5_
                       have HB := n6_
                       clear n0_ n1_ n2_ n3_ n4_ n5_ n6_
                       (try clear hb)
                       (try clear hb2)
                       (try clear hk)
                       (try clear hi)
                       (try clear ho0)
                       refine hK.out _ _ ⟨(blk_cell BK118.out 0).trans rfl, (blk_cell BK118.out 1).trans rfl, (blk_cell BK118.out 2).trans rfl, (blk_cell BK118.out 3).trans rfl⟩ (fun hHeld => ?_)
                       clear hK K
                       refine norm_ (a' := ?_) ?_ ?_
                       rotate_left
                       ·
                        show Act.put _ (some 26) _ = _
                        simp only [Act.put, List.setIfInBounds_toArray, List.set_cons_zero, List.set_cons_succ, i64_w, i32_w]
                        rfl
                       exact norm_ (by first | (simp only [putAll, Act.put, List.setIfInBounds_toArray, List.set_cons_zero, List.set_cons_succ]; done) | (simp only [putAll, Act.put, List.setIfInBounds_toArray, List.set_cons_zero, List.set_cons_succ]; rfl)) (hJ12_13 (v156, v159) _ ⟨hHeld, (by (with_reducible repeat (first | apply Kd.N_alloc | apply Kd.N_drewN | apply Kd.N_drew)); exact Kd.N_mono HO136.out (fun _ hk => ⟨hk.2, ⟨hk.1.1, hk.1.2⟩⟩)), (by (with_reducible repeat (first | apply Kd.V_alloc | apply Kd.V_drewN | apply Kd.V_drew)); exact Kd.V_mono HO145.out (fun _ hk => ⟨hk.2, ⟨hk.1.1, hk.1.2⟩⟩)), (by (with_reducible repeat (first | apply Kd.V_alloc | apply Kd.V_drewN | apply Kd.V_drew)); exact Kd.V_mono HO154.out (fun _ hk => ⟨hk.2, ⟨hk.1.1, hk.1.2⟩⟩)), (by (with_reducible repeat (first | apply Kd.R_alloc | apply Kd.R_drewN | apply Kd.R_drew)); exact Kd.R_mono HO157.out (fun _ hk => hk.2)), (by (with_reducible repeat (first | apply Kd.R_alloc | apply Kd.R_drewN | apply Kd.R_drew)); exact Kd.R_mono HO160.out (fun _ hk => hk.2)), blk_, bel_⟩)
                     ·
                      skip
                      rintro v156 w41 ⟨hS_, h0_, h1_, h2_, h3_, h4_, h5_⟩
                      have n0_ : Sd (Kd.N (Kd.slice 28 k28) 51 w41 w.heap.size (fun k_ => some k_ ≠ (v156 : Value).ownBlock ∧ k_ ≠ gb118) (.slice Ao36 y134.length co36) y134) := ⟨h0_⟩
                      have n1_ : Sd (Kd.V k53 53 w41 w.heap.size (fun k_ => some k_ ≠ (v156 : Value).ownBlock ∧ k_ ≠ gb118) v144 t143) := ⟨h1_⟩
                      have n2_ : Sd (Kd.V k53 53 w41 w.heap.size (fun k_ => some k_ ≠ (v156 : Value).ownBlock ∧ k_ ≠ gb118) v153 t152) := ⟨h2_⟩
                      have n3_ : Sd (Kd.R (Kd.int .i64) 3 w41 w.heap.size (fun _ => True) v156 t155) := ⟨h3_⟩
                      have n4_ : Sd (w41.heap[gb118]? = some (.cells #[.int .i64 1, .int .i64 0, .int .i64 0, .string (⟨#[97]⟩ : ByteArray)] 53 (0, 0))) := ⟨h4_⟩
                      have n5_ : Sd (Below w.heap.size w w41) := ⟨h5_⟩
                      clear HO136
                      clear BK118
                      clear HB
                      clear h0_ h1_ h2_ h3_ h4_ h5_
                      have HO136 := n0_
                      have HO145 := n1_
                      have HO154 := n2_
                      have HO157 := n3_
                      have BK118 := n4_
                      have HB := n5_
                      clear n0_ n1_ n2_ n3_ n4_ n5_
                      have hHeld : w41.cell? ⟨gb118, 0, none⟩ = some (.int .i64 1) ∧ w41.cell? ⟨gb118, 1, none⟩ = some (.int .i64 0) ∧ w41.cell? ⟨gb118, 2, none⟩ = some (.int .i64 0) ∧ w41.cell? ⟨gb118, 3, none⟩ = some (.string (⟨#[97]⟩ : ByteArray)) := hS_
                      refine norm_ (a' := ?_) ?_ ?_
                      rotate_left
                      ·
                       simp only [putAll, Act.put, List.setIfInBounds_toArray, List.set_cons_zero, List.set_cons_succ]
                       rfl
                      refine one_ (i := 13) (N := some 27) #[true,true,true,true,true,true,true,true,true,true,true,true,true,true,false,false,false,false,false,false,false,false,false,false,false,false,false,false,false,false,false,false,false,false,false,false,false,false,false,false] rfl rfl (one_of HT_.out (by kernel_rfl)) (by decide) (fun K hK => ?_)
                      refine Kd.R_lit_step (Kd.int .i64) _ 3 ?hg (N := 27) ?hd (xs := ([0, 2] : List Int)) (inner := [.int .i64 0, .int .i64 2]) (ok := fun _ => True) (okp := fun _ => True) ?hr ?hp (fun _ hk => hk) trivial (Below.refl _ _) (Nat.le_refl _) (by simp) ?_; (case hd => rfl); (case hg => rfl); (case hr => first | (go_simp; done) | (go_simp; rfl)); (case hp => exact (Reps.one (show Kd.M (Kd.int .i64) _ _ _ 0 [.int .i64 0] from rfl) (Reps.one (show Kd.M (Kd.int .i64) _ _ _ 2 [.int .i64 2] from rfl) (Reps.none _ _))))
                      intro v159 w42 ho43 hb hg_ hnew_
                      clear hg_ hnew_
                      (first | rw [← Ny158.out] at ho43 | (simp only [Int.reduceToNat] at ho43; rw [← Ny158.out] at ho43))
                      have n0_ := Sd.mk (Kd.N_elder' (q30N HO136.out) (Kd.R_base ho43) hb)
                      have n1_ := Sd.mk (Kd.V_elder' (q30V HO145.out) (Kd.R_base ho43) hb)
                      have n2_ := Sd.mk (Kd.V_elder' (q30V HO154.out) (Kd.R_base ho43) hb)
                      have n3_ := Sd.mk (Kd.R_elder' (q30R HO157.out) (Kd.R_base ho43) hb)
                      have n4_ := Sd.mk (Kd.R_lower (Kd.R_new' ho43 (Kd.R_lt (q30R HO157.out))) (below_size bel_))
                      have n5_ := Sd.mk (blk_below (g := gb118) (o := .cells #[.int .i64 1, .int .i64 0, .int .i64 0, .string (⟨#[97]⟩ : ByteArray)] 53 (0, 0)) blk_ hb)
                      have n6_ := Sd.mk (below_step bel_ hb)
                      clear HO136
                      clear HO145
                      clear HO154
                      clear HO157
                      clear BK118
                      clear HB
                      have HO136 := n0_
                      have HO145 := n1_
                      have HO154 := n2_
                      have HO157 := n3_
                      have HO160 := n4_
                      have BK118 := n5_
                      have HB := n6_
                      clear n0_ n1_ n2_ n3_ n4_ n5_ n6_
                      clear hb ho43
                      refine hK.out _ _ ⟨(blk_cell BK118.out 0).trans rfl, (blk_cell BK118.out 1).trans rfl, (blk_cell BK118.out 2).trans rfl, (blk_cell BK118.out 3).trans rfl⟩ (fun hHeld => ?_)
                      clear hK K
                      refine norm_ (a' := ?_) ?_ ?_
                      rotate_left
                      ·
                       show Act.put _ (some 27) _ = _
                       simp only [Act.put, List.setIfInBounds_toArray, List.set_cons_zero, List.set_cons_succ, i64_w, i32_w]
                       rfl
                      exact norm_ (by first | (simp only [putAll, Act.put, List.setIfInBounds_toArray, List.set_cons_zero, List.set_cons_succ]; done) | (simp only [putAll, Act.put, List.setIfInBounds_toArray, List.set_cons_zero, List.set_cons_succ]; rfl)) (hJ12_13 (v156, v159) _ ⟨hHeld, (by (with_reducible repeat (first | apply Kd.N_alloc | apply Kd.N_drewN | apply Kd.N_drew)); exact Kd.N_mono HO136.out (fun _ hk => ⟨hk.1.1, ⟨hk.2, hk.1.2⟩⟩)), (by (with_reducible repeat (first | apply Kd.V_alloc | apply Kd.V_drewN | apply Kd.V_drew)); exact Kd.V_mono HO145.out (fun _ hk => ⟨hk.1.1, ⟨hk.2, hk.1.2⟩⟩)), (by (with_reducible repeat (first | apply Kd.V_alloc | apply Kd.V_drewN | apply Kd.V_drew)); exact Kd.V_mono HO154.out (fun _ hk => ⟨hk.1.1, ⟨hk.2, hk.1.2⟩⟩)), (by (with_reducible repeat (first | apply Kd.R_alloc | apply Kd.R_drewN | apply Kd.R_drew)); exact Kd.R_mono HO157.out (fun _ hk => hk.2)), (by (with_reducible repeat (first | apply Kd.R_alloc | apply Kd.R_drewN | apply Kd.R_drew)); exact Kd.R_mono HO160.out (fun _ hk => hk.2)), blk_, bel_⟩)
                    ·
                     skip
                     rintro ⟨v156, v159⟩ w43 ⟨hS_, h0_, h1_, h2_, h3_, h4_, h5_, h6_⟩
                     have n0_ : Sd (Kd.N (Kd.slice 28 k28) 51 w43 w.heap.size (fun k_ => some k_ ≠ (v156 : Value).ownBlock ∧ some k_ ≠ (v159 : Value).ownBlock ∧ k_ ≠ gb118) (.slice Ao36 y134.length co36) y134) := ⟨h0_⟩
                     have n1_ : Sd (Kd.V k53 53 w43 w.heap.size (fun k_ => some k_ ≠ (v156 : Value).ownBlock ∧ some k_ ≠ (v159 : Value).ownBlock ∧ k_ ≠ gb118) v144 t143) := ⟨h1_⟩
                     have n2_ : Sd (Kd.V k53 53 w43 w.heap.size (fun k_ => some k_ ≠ (v156 : Value).ownBlock ∧ some k_ ≠ (v159 : Value).ownBlock ∧ k_ ≠ gb118) v153 t152) := ⟨h2_⟩
                     have n3_ : Sd (Kd.R (Kd.int .i64) 3 w43 w.heap.size (fun k_ => some k_ ≠ (v159 : Value).ownBlock) v156 t155) := ⟨h3_⟩
                     have n4_ : Sd (Kd.R (Kd.int .i64) 3 w43 w.heap.size (fun k_ => some k_ ≠ (v156 : Value).ownBlock) v159 y158) := ⟨h4_⟩
                     have n5_ : Sd (w43.heap[gb118]? = some (.cells #[.int .i64 1, .int .i64 0, .int .i64 0, .string (⟨#[97]⟩ : ByteArray)] 53 (0, 0))) := ⟨h5_⟩
                     have n6_ : Sd (Below w.heap.size w w43) := ⟨h6_⟩
                     clear HO136
                     clear BK118
                     clear HB
                     clear h0_ h1_ h2_ h3_ h4_ h5_ h6_
                     have HO136 := n0_
                     have HO145 := n1_
                     have HO154 := n2_
                     have HO157 := n3_
                     have HO160 := n4_
                     have BK118 := n5_
                     have HB := n6_
                     clear n0_ n1_ n2_ n3_ n4_ n5_ n6_
                     have hHeld : w43.cell? ⟨gb118, 0, none⟩ = some (.int .i64 1) ∧ w43.cell? ⟨gb118, 1, none⟩ = some (.int .i64 0) ∧ w43.cell? ⟨gb118, 2, none⟩ = some (.int .i64 0) ∧ w43.cell? ⟨gb118, 3, none⟩ = some (.string (⟨#[97]⟩ : ByteArray)) := hS_
                     obtain ⟨Ao44, co44, eo44⟩ := Kd.R_slice HO157.out
                     (first | subst eo44 | (injection eo44 with f1_ f2_ f3_; have f4_ := f1_.symm; have f5_ := f3_.symm; clear f1_ f2_ f3_; subst f4_; subst f5_))
                     obtain ⟨Ao45, co45, eo45⟩ := Kd.R_slice HO160.out
                     (first | subst eo45 | (injection eo45 with f1_ f2_ f3_; have f4_ := f1_.symm; have f5_ := f3_.symm; clear f1_ f2_ f3_; subst f4_; subst f5_))
                     refine norm_ (a' := ?_) ?_ ?_
                     rotate_left
                     ·
                      simp only [putAll, Act.put, List.setIfInBounds_toArray, List.set_cons_zero, List.set_cons_succ]
                      rfl
                     refine one_ (i := 14) (N := some 28) #[true,true,true,true,true,true,true,true,true,true,true,true,true,true,true,false,false,false,false,false,false,false,false,false,false,false,false,false,false,false,false,false,false,false,false,false,false,false,false,false] rfl rfl (one_of HT_.out (by kernel_rfl)) (by decide) (fun K hK => ?_)
                     refine goes_ Try.func14 (by kernel_rfl) rfl #[.slice Ao44 t155.length co44, .slice Ao45 y158.length co45] (by rfl) rfl rfl (by (try simp only [List.map_toArray, List.map_cons, List.map_nil]); first | done | rfl | (simp only [List.length_drop, List.length_take]; rfl)) ?_
                     with_reducible refine (r06Ints.calls k _ _ t155 _ _ y158 true _ ?side1 ?side2 ?side3 ?side4 A6.out).mono ?_
                     (case side1 => repeat (first | exact (Kd.R_reads' HO157.out).2.2 | (with_reducible refine Kd.C_alloc ?_ _) | (with_reducible refine Kd.C_drewN ?_ _) | (with_reducible refine Kd.C_drew ?_)))
                     (case side2 => exact (Kd.R_reads' HO157.out).2.1)
                     (case side3 => repeat (first | exact (Kd.R_reads' HO160.out).2.2 | (with_reducible refine Kd.C_alloc ?_ _) | (with_reducible refine Kd.C_drewN ?_ _) | (with_reducible refine Kd.C_drew ?_)))
                     (case side4 => exact (Kd.R_reads' HO160.out).2.1)
                     rintro e w' ⟨rfl, ⟨nd, rfl⟩⟩
                     refine ⟨_, rfl, ?_⟩
                     refine hK.out _ _ ⟨(blk_cell BK118.out 0).trans rfl, (blk_cell BK118.out 1).trans rfl, (blk_cell BK118.out 2).trans rfl, (blk_cell BK118.out 3).trans rfl⟩ (fun hHeld => ?_)
                     clear hK K
                     refine norm_ (a' := ?_) ?_ ?_
                     rotate_left
                     ·
                      show Act.put _ (some 28) _ = _
                      simp only [Act.put, List.setIfInBounds_toArray, List.set_cons_zero, List.set_cons_succ, i64_w, i32_w]
                      rfl
                     refine pure_ (i := 15) (N := some 29) (v := ?_) (a' := ?_) #[true,true,true,true,true,true,true,true,true,true,true,true,true,true,true,true,false,false,false,false,false,false,false,false,false,false,false,false,false,false,false,false,false,false,false,false,false,false,false,false] rfl rfl (any_of HT_.out (by kernel_rfl)) (fun _ _ _ h => h) (Or.inl ⟨by rfl, ?_⟩) ?_ ?_
                     rotate_left
                     ·
                      intro w'
                      go_simp
                      with_reducible rfl
                     rotate_left
                     ·
                      simp only [Act.put, List.setIfInBounds_toArray, List.set_cons_zero, List.set_cons_succ, i64_w, i32_w]
                      rfl
                     refine pure_ (i := 16) (N := some 30) (v := ?_) (a' := ?_) #[true,true,true,true,true,true,true,true,true,true,true,true,true,true,true,true,true,false,false,false,false,false,false,false,false,false,false,false,false,false,false,false,false,false,false,false,false,false,false,false] rfl rfl (any_of HT_.out (by kernel_rfl)) (fun _ _ _ h => h) (Or.inl ⟨by rfl, ?_⟩) ?_ ?_
                     rotate_left
                     ·
                      intro w'
                      go_simp
                      with_reducible rfl
                     rotate_left
                     ·
                      simp only [Act.put, List.setIfInBounds_toArray, List.set_cons_zero, List.set_cons_succ, i64_w, i32_w]
                      rfl
                     refine pure_ (i := 17) (N := some 31) (v := ?_) (a' := ?_) #[true,true,true,true,true,true,true,true,true,true,true,true,true,true,true,true,true,true,false,false,false,false,false,false,false,false,false,false,false,false,false,false,false,false,false,false,false,false,false,false] rfl rfl (any_of HT_.out (by kernel_rfl)) (fun _ _ _ h => h) (Or.inl ⟨by rfl, ?_⟩) ?_ ?_
                     rotate_left
                     ·
                      intro w'
                      go_simp
                      with_reducible rfl
                     rotate_left
                     ·
                      simp only [Act.put, List.setIfInBounds_toArray, List.set_cons_zero, List.set_cons_succ, i64_w, i32_w]
                      rfl
                     exact norm_ (by first | (simp only [putAll, Act.put, List.setIfInBounds_toArray, List.set_cons_zero, List.set_cons_succ]; done) | (simp only [putAll, Act.put, List.setIfInBounds_toArray, List.set_cons_zero, List.set_cons_succ]; rfl)) (hJ12_13_14 (.slice Ao44 t155.length co44, .slice Ao45 y158.length co45) _ ⟨hHeld, (q30N HO136.out), (q30V HO145.out), (q30V HO154.out), (q30R HO157.out), (q30R HO160.out), blk_, bel_⟩)
                   ·
                    skip
                    rintro ⟨v156, v159⟩ w45 ⟨hS_, h0_, h1_, h2_, h3_, h4_, h5_, h6_⟩
                    have n0_ : Sd (Kd.N (Kd.slice 28 k28) 51 w45 w.heap.size (fun k_ => some k_ ≠ (v156 : Value).ownBlock ∧ some k_ ≠ (v159 : Value).ownBlock ∧ k_ ≠ gb118) (.slice Ao36 y134.length co36) y134) := ⟨h0_⟩
                    have n1_ : Sd (Kd.V k53 53 w45 w.heap.size (fun k_ => some k_ ≠ (v156 : Value).ownBlock ∧ some k_ ≠ (v159 : Value).ownBlock ∧ k_ ≠ gb118) v144 t143) := ⟨h1_⟩
                    have n2_ : Sd (Kd.V k53 53 w45 w.heap.size (fun k_ => some k_ ≠ (v156 : Value).ownBlock ∧ some k_ ≠ (v159 : Value).ownBlock ∧ k_ ≠ gb118) v153 t152) := ⟨h2_⟩
                    have n3_ : Sd (Kd.R (Kd.int .i64) 3 w45 w.heap.size (fun k_ => some k_ ≠ (v159 : Value).ownBlock) v156 t155) := ⟨h3_⟩
                    have n4_ : Sd (Kd.R (Kd.int .i64) 3 w45 w.heap.size (fun k_ => some k_ ≠ (v156 : Value).ownBlock) v159 y158) := ⟨h4_⟩
                    have n5_ : Sd (w45.heap[gb118]? = some (.cells #[.int .i64 1, .int .i64 0, .int .i64 0, .string (⟨#[97]⟩ : ByteArray)] 53 (0, 0))) := ⟨h5_⟩
                    have n6_ : Sd (Below w.heap.size w w45) := ⟨h6_⟩
                    clear HO136
                    clear BK118
                    clear HB
                    clear h0_ h1_ h2_ h3_ h4_ h5_ h6_
                    have HO136 := n0_
                    have HO145 := n1_
                    have HO154 := n2_
                    have HO157 := n3_
                    have HO160 := n4_
                    have BK118 := n5_
                    have HB := n6_
                    clear n0_ n1_ n2_ n3_ n4_ n5_ n6_
                    have hHeld : w45.cell? ⟨gb118, 0, none⟩ = some (.int .i64 1) ∧ w45.cell? ⟨gb118, 1, none⟩ = some (.int .i64 0) ∧ w45.cell? ⟨gb118, 2, none⟩ = some (.int .i64 0) ∧ w45.cell? ⟨gb118, 3, none⟩ = some (.string (⟨#[97]⟩ : ByteArray)) := hS_
                    refine norm_ (a' := ?_) ?_ ?_
                    rotate_left
                    ·
                     simp only [putAll, Act.put, List.setIfInBounds_toArray, List.set_cons_zero, List.set_cons_succ]
                     rfl
                    refine two_ (i := 18) (j := 19) (Ni := some 32) (Nj := some 33) #[true,true,true,true,true,true,true,true,true,true,true,true,true,true,true,true,true,true,true,false,false,false,false,false,false,false,false,false,false,false,false,false,false,false,false,false,false,false,false,false] #[true,true,true,true,true,true,true,true,true,true,true,true,true,true,true,true,true,true,false,true,false,false,false,false,false,false,false,false,false,false,false,false,false,false,false,false,false,false,false,false] rfl rfl rfl rfl (two_of HT_.out (by kernel_rfl)) (by decide) (by decide) (fun K hK => ?_) (fun K hK => ?_)
                    ·
                     skip
                     refine goes_ Try.func17 (by kernel_rfl) rfl #[.slice Ao36 y134.length co36, .int .i64 0] (by rfl) rfl rfl (by (try simp only [List.map_toArray, List.map_cons, List.map_nil]); first | done | rfl | (simp only [List.length_drop, List.length_take]; rfl)) ?_
                     with_reducible refine (trace_Sent.calls _ _ y134 0 t162 _ ?side1 ?side2 A8.out).mono ?_
                     (case side1 => repeat (first | exact (Kd.N_reads' HO136.out).2.2 | (with_reducible refine Kd.C_alloc ?_ _) | (with_reducible refine Kd.C_drewN ?_ _) | (with_reducible refine Kd.C_drew ?_)))
                     (case side2 => exact (Kd.N_reads' HO136.out).2.1)
                     rintro e w46 ⟨v163, rfl, ho0, hb⟩
                     refine ⟨_, rfl, ?_⟩
                     have n0_ := Sd.mk (Kd.N_elder' (q30N HO136.out) (Kd.R_base ho0) hb)
                     have n1_ := Sd.mk (Kd.V_elder' (q30V HO145.out) (Kd.R_base ho0) hb)
                     have n2_ := Sd.mk (Kd.V_elder' (q30V HO154.out) (Kd.R_base ho0) hb)
                     have n3_ := Sd.mk (Kd.R_elder' (q30R HO157.out) (Kd.R_base ho0) hb)
                     have n4_ := Sd.mk (Kd.R_elder' (q30R HO160.out) (Kd.R_base ho0) hb)
                     have n5_ := Sd.mk (Kd.R_lower (Kd.R_new' (Kd.R_new' ho0 (Kd.R_lt (q30R HO157.out))) (Kd.R_lt (q30R HO160.out))) (below_size bel_))
                     have n6_ := Sd.mk (blk_below (g := gb118) (o := .cells #[.int .i64 1, .int .i64 0, .int .i64 0, .string (⟨#[97]⟩ : ByteArray)] 53 (0, 0)) blk_ hb)
                     have n7_ := Sd.mk (below_step bel_ hb)
                     clear HO136
                     clear HO145
                     clear HO154
                     clear HO157
                     clear HO160
                     clear BK118
                     clear HB
                     have HO136 := n0_
                     have HO145 := n1_
                     have HO154 := n2_
                     have HO157 := n3_
                     have HO160 := n4_
                     have HO164 := n5_
                     have BK118 := n6_
                     have HB := n7_
                     clear n0_ n1_ n2_ n3_ n4_ n5_ n6_ n7_
                     (try clear hb)
                     (try clear hb2)
                     (try clear hk)
                     (try clear hi)
                     (try clear ho0)
                     refine hK.out _ _ ⟨(blk_cell BK118.out 0).trans rfl, (blk_cell BK118.out 1).trans rfl, (blk_cell BK118.out 2).trans rfl, (blk_cell BK118.out 3).trans rfl⟩ (fun hHeld => ?_)
                     clear hK K
                     refine norm_ (a' := ?_) ?_ ?_
                     rotate_left
                     ·
                      show Act.put _ (some 32) _ = _
                      simp only [Act.put, List.setIfInBounds_toArray, List.set_cons_zero, List.set_cons_succ, i64_w, i32_w]
                      rfl
                     exact norm_ (by first | (simp only [putAll, Act.put, List.setIfInBounds_toArray, List.set_cons_zero, List.set_cons_succ]; done) | (simp only [putAll, Act.put, List.setIfInBounds_toArray, List.set_cons_zero, List.set_cons_succ]; rfl)) (hJ12_13_14_18 (v156, v159, v163) _ ⟨hHeld, (by (with_reducible repeat (first | apply Kd.N_alloc | apply Kd.N_drewN | apply Kd.N_drew)); exact Kd.N_mono HO136.out (fun _ hk => ⟨hk.1.1, ⟨hk.1.2.1, ⟨hk.2, hk.1.2.2⟩⟩⟩)), (by (with_reducible repeat (first | apply Kd.V_alloc | apply Kd.V_drewN | apply Kd.V_drew)); exact Kd.V_mono HO145.out (fun _ hk => ⟨hk.1.1, ⟨hk.1.2.1, ⟨hk.2, hk.1.2.2⟩⟩⟩)), (by (with_reducible repeat (first | apply Kd.V_alloc | apply Kd.V_drewN | apply Kd.V_drew)); exact Kd.V_mono HO154.out (fun _ hk => ⟨hk.1.1, ⟨hk.1.2.1, ⟨hk.2, hk.1.2.2⟩⟩⟩)), (q30R HO157.out), (q30R HO160.out), (by (with_reducible repeat (first | apply Kd.R_alloc | apply Kd.R_drewN | apply Kd.R_drew)); exact Kd.R_mono HO164.out (fun _ hk => ⟨hk.1.2, hk.2⟩)), blk_, bel_⟩)
                    ·
                     skip
                     refine Kd.R_lit_step (Kd.int .i64) _ 3 ?hg (N := 33) ?hd (xs := ([1] : List Int)) (inner := [.int .i64 1]) (ok := fun _ => True) (okp := fun _ => True) ?hr ?hp (fun _ hk => hk) trivial (Below.refl _ _) (Nat.le_refl _) (by simp) ?_; (case hd => rfl); (case hg => rfl); (case hr => first | (go_simp; done) | (go_simp; rfl)); (case hp => exact (Reps.one (show Kd.M (Kd.int .i64) _ _ _ 1 [.int .i64 1] from rfl) (Reps.none _ _)))
                     intro v166 w46 ho47 hb hg_ hnew_
                     clear hg_ hnew_
                     (first | rw [← Ny165.out] at ho47 | (simp only [Int.reduceToNat] at ho47; rw [← Ny165.out] at ho47))
                     have n0_ := Sd.mk (Kd.N_elder' (q30N HO136.out) (Kd.R_base ho47) hb)
                     have n1_ := Sd.mk (Kd.V_elder' (q30V HO145.out) (Kd.R_base ho47) hb)
                     have n2_ := Sd.mk (Kd.V_elder' (q30V HO154.out) (Kd.R_base ho47) hb)
                     have n3_ := Sd.mk (Kd.R_elder' (q30R HO157.out) (Kd.R_base ho47) hb)
                     have n4_ := Sd.mk (Kd.R_elder' (q30R HO160.out) (Kd.R_base ho47) hb)
                     have n5_ := Sd.mk (Kd.R_lower (Kd.R_new' (Kd.R_new' ho47 (Kd.R_lt (q30R HO157.out))) (Kd.R_lt (q30R HO160.out))) (below_size bel_))
                     have n6_ := Sd.mk (blk_below (g := gb118) (o := .cells #[.int .i64 1, .int .i64 0, .int .i64 0, .string (⟨#[97]⟩ : ByteArray)] 53 (0, 0)) blk_ hb)
                     have n7_ := Sd.mk (below_step bel_ hb)
                     clear HO136
                     clear HO145
                     clear HO154
                     clear HO157
                     clear HO160
                     clear BK118
                     clear HB
                     have HO136 := n0_
                     have HO145 := n1_
                     have HO154 := n2_
                     have HO157 := n3_
                     have HO160 := n4_
                     have HO167 := n5_
                     have BK118 := n6_
                     have HB := n7_
                     clear n0_ n1_ n2_ n3_ n4_ n5_ n6_ n7_
                     clear hb ho47
                     refine hK.out _ _ ⟨(blk_cell BK118.out 0).trans rfl, (blk_cell BK118.out 1).trans rfl, (blk_cell BK118.out 2).trans rfl, (blk_cell BK118.out 3).trans rfl⟩ (fun hHeld => ?_)
                     clear hK K
                     refine norm_ (a' := ?_) ?_ ?_
                     rotate_left
                     ·
                      show Act.put _ (some 33) _ = _
                      simp only [Act.put, List.setIfInBounds_toArray, List.set_cons_zero, List.set_cons_succ, i64_w, i32_w]
                      rfl
                     exact norm_ (by first | (simp only [putAll, Act.put, List.setIfInBounds_toArray, List.set_cons_zero, List.set_cons_succ]; done) | (simp only [putAll, Act.put, List.setIfInBounds_toArray, List.set_cons_zero, List.set_cons_succ]; rfl)) (hJ12_13_14_19 (v156, v159, v166) _ ⟨hHeld, (by (with_reducible repeat (first | apply Kd.N_alloc | apply Kd.N_drewN | apply Kd.N_drew)); exact Kd.N_mono HO136.out (fun _ hk => ⟨hk.1.1, ⟨hk.1.2.1, ⟨hk.2, hk.1.2.2⟩⟩⟩)), (by (with_reducible repeat (first | apply Kd.V_alloc | apply Kd.V_drewN | apply Kd.V_drew)); exact Kd.V_mono HO145.out (fun _ hk => ⟨hk.1.1, ⟨hk.1.2.1, ⟨hk.2, hk.1.2.2⟩⟩⟩)), (by (with_reducible repeat (first | apply Kd.V_alloc | apply Kd.V_drewN | apply Kd.V_drew)); exact Kd.V_mono HO154.out (fun _ hk => ⟨hk.1.1, ⟨hk.1.2.1, ⟨hk.2, hk.1.2.2⟩⟩⟩)), (q30R HO157.out), (q30R HO160.out), (by (with_reducible repeat (first | apply Kd.R_alloc | apply Kd.R_drewN | apply Kd.R_drew)); exact Kd.R_mono HO167.out (fun _ hk => ⟨hk.1.2, hk.2⟩)), blk_, bel_⟩)
                  ·
                   skip
                   rintro ⟨v156, v159, v166⟩ w47 ⟨hS_, h0_, h1_, h2_, h3_, h4_, h5_, h6_, h7_⟩
                   have n0_ : Sd (Kd.N (Kd.slice 28 k28) 51 w47 w.heap.size (fun k_ => some k_ ≠ (v156 : Value).ownBlock ∧ some k_ ≠ (v159 : Value).ownBlock ∧ some k_ ≠ (v166 : Value).ownBlock ∧ k_ ≠ gb118) (.slice Ao36 y134.length co36) y134) := ⟨h0_⟩
                   have n1_ : Sd (Kd.V k53 53 w47 w.heap.size (fun k_ => some k_ ≠ (v156 : Value).ownBlock ∧ some k_ ≠ (v159 : Value).ownBlock ∧ some k_ ≠ (v166 : Value).ownBlock ∧ k_ ≠ gb118) v144 t143) := ⟨h1_⟩
                   have n2_ : Sd (Kd.V k53 53 w47 w.heap.size (fun k_ => some k_ ≠ (v156 : Value).ownBlock ∧ some k_ ≠ (v159 : Value).ownBlock ∧ some k_ ≠ (v166 : Value).ownBlock ∧ k_ ≠ gb118) v153 t152) := ⟨h2_⟩
                   have n3_ : Sd (Kd.R (Kd.int .i64) 3 w47 w.heap.size (fun k_ => some k_ ≠ (v159 : Value).ownBlock ∧ some k_ ≠ (v166 : Value).ownBlock) v156 t155) := ⟨h3_⟩
                   have n4_ : Sd (Kd.R (Kd.int .i64) 3 w47 w.heap.size (fun k_ => some k_ ≠ (v156 : Value).ownBlock ∧ some k_ ≠ (v166 : Value).ownBlock) v159 y158) := ⟨h4_⟩
                   have n5_ : Sd (Kd.R (Kd.int .i64) 3 w47 w.heap.size (fun k_ => some k_ ≠ (v156 : Value).ownBlock ∧ some k_ ≠ (v159 : Value).ownBlock) v166 y165) := ⟨h5_⟩
                   have n6_ : Sd (w47.heap[gb118]? = some (.cells #[.int .i64 1, .int .i64 0, .int .i64 0, .string (⟨#[97]⟩ : ByteArray)] 53 (0, 0))) := ⟨h6_⟩
                   have n7_ : Sd (Below w.heap.size w w47) := ⟨h7_⟩
                   clear HO136
                   clear BK118
                   clear HB
                   clear h0_ h1_ h2_ h3_ h4_ h5_ h6_ h7_
                   have HO136 := n0_
                   have HO145 := n1_
                   have HO154 := n2_
                   have HO157 := n3_
                   have HO160 := n4_
                   have HO167 := n5_
                   have BK118 := n6_
                   have HB := n7_
                   clear n0_ n1_ n2_ n3_ n4_ n5_ n6_ n7_
                   have hHeld : w47.cell? ⟨gb118, 0, none⟩ = some (.int .i64 1) ∧ w47.cell? ⟨gb118, 1, none⟩ = some (.int .i64 0) ∧ w47.cell? ⟨gb118, 2, none⟩ = some (.int .i64 0) ∧ w47.cell? ⟨gb118, 3, none⟩ = some (.string (⟨#[97]⟩ : ByteArray)) := hS_
                   refine norm_ (a' := ?_) ?_ ?_
                   rotate_left
                   ·
                    simp only [putAll, Act.put, List.setIfInBounds_toArray, List.set_cons_zero, List.set_cons_succ]
                    rfl
                   refine one_ (i := 18) (N := some 32) #[true,true,true,true,true,true,true,true,true,true,true,true,true,true,true,true,true,true,true,true,false,false,false,false,false,false,false,false,false,false,false,false,false,false,false,false,false,false,false,false] rfl rfl (one_of HT_.out (by kernel_rfl)) (by decide) (fun K hK => ?_)
                   refine goes_ Try.func17 (by kernel_rfl) rfl #[.slice Ao36 y134.length co36, .int .i64 0] (by rfl) rfl rfl (by (try simp only [List.map_toArray, List.map_cons, List.map_nil]); first | done | rfl | (simp only [List.length_drop, List.length_take]; rfl)) ?_
                   with_reducible refine (trace_Sent.calls _ _ y134 0 t162 _ ?side1 ?side2 A8.out).mono ?_
                   (case side1 => repeat (first | exact (Kd.N_reads' HO136.out).2.2 | (with_reducible refine Kd.C_alloc ?_ _) | (with_reducible refine Kd.C_drewN ?_ _) | (with_reducible refine Kd.C_drew ?_)))
                   (case side2 => exact (Kd.N_reads' HO136.out).2.1)
                   rintro e w48 ⟨v163, rfl, ho0, hb⟩
                   refine ⟨_, rfl, ?_⟩
                   have n0_ := Sd.mk (Kd.N_elder' (q30N HO136.out) (Kd.R_base ho0) hb)
                   have n1_ := Sd.mk (Kd.V_elder' (q30V HO145.out) (Kd.R_base ho0) hb)
                   have n2_ := Sd.mk (Kd.V_elder' (q30V HO154.out) (Kd.R_base ho0) hb)
                   have n3_ := Sd.mk (Kd.R_elder' (q30R HO157.out) (Kd.R_base ho0) hb)
                   have n4_ := Sd.mk (Kd.R_elder' (q30R HO160.out) (Kd.R_base ho0) hb)
                   have n5_ := Sd.mk (Kd.R_elder' (q30R HO167.out) (Kd.R_base ho0) hb)
                   have n6_ := Sd.mk (Kd.R_lower (Kd.R_new' (Kd.R_new' (Kd.R_new' ho0 (Kd.R_lt (q30R HO157.out))) (Kd.R_lt (q30R HO160.out))) (Kd.R_lt (q30R HO167.out))) (below_size bel_))
                   have n7_ := Sd.mk (blk_below (g := gb118) (o := .cells #[.int .i64 1, .int .i64 0, .int .i64 0, .string (⟨#[97]⟩ : ByteArray)] 53 (0, 0)) blk_ hb)
                   have n8_ := Sd.mk (below_step bel_ hb)
                   clear HO136
                   clear HO145
                   clear HO154
                   clear HO157
                   clear HO160
                   clear HO167
                   clear BK118
                   clear HB
                   have HO136 := n0_
                   have HO145 := n1_
                   have HO154 := n2_
                   have HO157 := n3_
                   have HO160 := n4_
                   have HO167 := n5_
                   have HO164 := n6_
                   have BK118 := n7_
                   have HB := n8_
                   clear n0_ n1_ n2_ n3_ n4_ n5_ n6_ n7_ n8_
                   (try clear hb)
                   (try clear hb2)
                   (try clear hk)
                   (try clear hi)
                   (try clear ho0)
                   refine hK.out _ _ ⟨(blk_cell BK118.out 0).trans rfl, (blk_cell BK118.out 1).trans rfl, (blk_cell BK118.out 2).trans rfl, (blk_cell BK118.out 3).trans rfl⟩ (fun hHeld => ?_)
                   clear hK K
                   refine norm_ (a' := ?_) ?_ ?_
                   rotate_left
                   ·
                    show Act.put _ (some 32) _ = _
                    simp only [Act.put, List.setIfInBounds_toArray, List.set_cons_zero, List.set_cons_succ, i64_w, i32_w]
                    rfl
                   exact norm_ (by first | (simp only [putAll, Act.put, List.setIfInBounds_toArray, List.set_cons_zero, List.set_cons_succ]; done) | (simp only [putAll, Act.put, List.setIfInBounds_toArray, List.set_cons_zero, List.set_cons_succ]; rfl)) (hJ12_13_14_18_19 (v156, v159, v163, v166) _ ⟨hHeld, (by (with_reducible repeat (first | apply Kd.N_alloc | apply Kd.N_drewN | apply Kd.N_drew)); exact Kd.N_mono HO136.out (fun _ hk => ⟨hk.1.1, ⟨hk.1.2.1, ⟨hk.2, ⟨hk.1.2.2.1, hk.1.2.2.2⟩⟩⟩⟩)), (by (with_reducible repeat (first | apply Kd.V_alloc | apply Kd.V_drewN | apply Kd.V_drew)); exact Kd.V_mono HO145.out (fun _ hk => ⟨hk.1.1, ⟨hk.1.2.1, ⟨hk.2, ⟨hk.1.2.2.1, hk.1.2.2.2⟩⟩⟩⟩)), (by (with_reducible repeat (first | apply Kd.V_alloc | apply Kd.V_drewN | apply Kd.V_drew)); exact Kd.V_mono HO154.out (fun _ hk => ⟨hk.1.1, ⟨hk.1.2.1, ⟨hk.2, ⟨hk.1.2.2.1, hk.1.2.2.2⟩⟩⟩⟩)), (by (with_reducible repeat (first | apply Kd.R_alloc | apply Kd.R_drewN | apply Kd.R_drew)); exact Kd.R_mono HO157.out (fun _ hk => ⟨hk.1.1, ⟨hk.2, hk.1.2⟩⟩)), (by (with_reducible repeat (first | apply Kd.R_alloc | apply Kd.R_drewN | apply Kd.R_drew)); exact Kd.R_mono HO160.out (fun _ hk => ⟨hk.1.1, ⟨hk.2, hk.1.2⟩⟩)), (by (with_reducible repeat (first | apply Kd.R_alloc | apply Kd.R_drewN | apply Kd.R_drew)); exact Kd.R_mono HO164.out (fun _ hk => ⟨hk.1.1.2, ⟨hk.1.2, hk.2⟩⟩)), (by (with_reducible repeat (first | apply Kd.R_alloc | apply Kd.R_drewN | apply Kd.R_drew)); exact Kd.R_mono HO167.out (fun _ hk => ⟨hk.1.1, ⟨hk.1.2, hk.2⟩⟩)), blk_, bel_⟩)
                 ·
                  skip
                  rintro ⟨v156, v159, v163⟩ w46 ⟨hS_, h0_, h1_, h2_, h3_, h4_, h5_, h6_, h7_⟩
                  have n0_ : Sd (Kd.N (Kd.slice 28 k28) 51 w46 w.heap.size (fun k_ => some k_ ≠ (v156 : Value).ownBlock ∧ some k_ ≠ (v159 : Value).ownBlock ∧ some k_ ≠ (v163 : Value).ownBlock ∧ k_ ≠ gb118) (.slice Ao36 y134.length co36) y134) := ⟨h0_⟩
                  have n1_ : Sd (Kd.V k53 53 w46 w.heap.size (fun k_ => some k_ ≠ (v156 : Value).ownBlock ∧ some k_ ≠ (v159 : Value).ownBlock ∧ some k_ ≠ (v163 : Value).ownBlock ∧ k_ ≠ gb118) v144 t143) := ⟨h1_⟩
                  have n2_ : Sd (Kd.V k53 53 w46 w.heap.size (fun k_ => some k_ ≠ (v156 : Value).ownBlock ∧ some k_ ≠ (v159 : Value).ownBlock ∧ some k_ ≠ (v163 : Value).ownBlock ∧ k_ ≠ gb118) v153 t152) := ⟨h2_⟩
                  have n3_ : Sd (Kd.R (Kd.int .i64) 3 w46 w.heap.size (fun k_ => some k_ ≠ (v159 : Value).ownBlock ∧ some k_ ≠ (v163 : Value).ownBlock) v156 t155) := ⟨h3_⟩
                  have n4_ : Sd (Kd.R (Kd.int .i64) 3 w46 w.heap.size (fun k_ => some k_ ≠ (v156 : Value).ownBlock ∧ some k_ ≠ (v163 : Value).ownBlock) v159 y158) := ⟨h4_⟩
                  have n5_ : Sd (Kd.R (Kd.int .i64) 3 w46 w.heap.size (fun k_ => some k_ ≠ (v156 : Value).ownBlock ∧ some k_ ≠ (v159 : Value).ownBlock) v163 t162) := ⟨h5_⟩
                  have n6_ : Sd (w46.heap[gb118]? = some (.cells #[.int .i64 1, .int .i64 0, .int .i64 0, .string (⟨#[97]⟩ : ByteArray)] 53 (0, 0))) := ⟨h6_⟩
                  have n7_ : Sd (Below w.heap.size w w46) := ⟨h7_⟩
                  clear HO136
                  clear BK118
                  clear HB
                  clear h0_ h1_ h2_ h3_ h4_ h5_ h6_ h7_
                  have HO136 := n0_
                  have HO145 := n1_
                  have HO154 := n2_
                  have HO157 := n3_
                  have HO160 := n4_
                  have HO164 := n5_
                  have BK118 := n6_
                  have HB := n7_
                  clear n0_ n1_ n2_ n3_ n4_ n5_ n6_ n7_
                  have hHeld : w46.cell? ⟨gb118, 0, none⟩ = some (.int .i64 1) ∧ w46.cell? ⟨gb118, 1, none⟩ = some (.int .i64 0) ∧ w46.cell? ⟨gb118, 2, none⟩ = some (.int .i64 0) ∧ w46.cell? ⟨gb118, 3, none⟩ = some (.string (⟨#[97]⟩ : ByteArray)) := hS_
                  refine norm_ (a' := ?_) ?_ ?_
                  rotate_left
                  ·
                   simp only [putAll, Act.put, List.setIfInBounds_toArray, List.set_cons_zero, List.set_cons_succ]
                   rfl
                  refine one_ (i := 19) (N := some 33) #[true,true,true,true,true,true,true,true,true,true,true,true,true,true,true,true,true,true,true,true,false,false,false,false,false,false,false,false,false,false,false,false,false,false,false,false,false,false,false,false] rfl rfl (one_of HT_.out (by kernel_rfl)) (by decide) (fun K hK => ?_)
                  refine Kd.R_lit_step (Kd.int .i64) _ 3 ?hg (N := 33) ?hd (xs := ([1] : List Int)) (inner := [.int .i64 1]) (ok := fun _ => True) (okp := fun _ => True) ?hr ?hp (fun _ hk => hk) trivial (Below.refl _ _) (Nat.le_refl _) (by simp) ?_; (case hd => rfl); (case hg => rfl); (case hr => first | (go_simp; done) | (go_simp; rfl)); (case hp => exact (Reps.one (show Kd.M (Kd.int .i64) _ _ _ 1 [.int .i64 1] from rfl) (Reps.none _ _)))
                  intro v166 w47 ho48 hb hg_ hnew_
                  clear hg_ hnew_
                  (first | rw [← Ny165.out] at ho48 | (simp only [Int.reduceToNat] at ho48; rw [← Ny165.out] at ho48))
                  have n0_ := Sd.mk (Kd.N_elder' (q30N HO136.out) (Kd.R_base ho48) hb)
                  have n1_ := Sd.mk (Kd.V_elder' (q30V HO145.out) (Kd.R_base ho48) hb)
                  have n2_ := Sd.mk (Kd.V_elder' (q30V HO154.out) (Kd.R_base ho48) hb)
                  have n3_ := Sd.mk (Kd.R_elder' (q30R HO157.out) (Kd.R_base ho48) hb)
                  have n4_ := Sd.mk (Kd.R_elder' (q30R HO160.out) (Kd.R_base ho48) hb)
                  have n5_ := Sd.mk (Kd.R_elder' (q30R HO164.out) (Kd.R_base ho48) hb)
                  have n6_ := Sd.mk (Kd.R_lower (Kd.R_new' (Kd.R_new' (Kd.R_new' ho48 (Kd.R_lt (q30R HO157.out))) (Kd.R_lt (q30R HO160.out))) (Kd.R_lt (q30R HO164.out))) (below_size bel_))
                  have n7_ := Sd.mk (blk_below (g := gb118) (o := .cells #[.int .i64 1, .int .i64 0, .int .i64 0, .string (⟨#[97]⟩ : ByteArray)] 53 (0, 0)) blk_ hb)
                  have n8_ := Sd.mk (below_step bel_ hb)
                  clear HO136
                  clear HO145
                  clear HO154
                  clear HO157
                  clear HO160
                  clear HO164
                  clear BK118
                  clear HB
                  have HO136 := n0_
                  have HO145 := n1_
                  have HO154 := n2_
                  have HO157 := n3_
                  have HO160 := n4_
                  have HO164 := n5_
                  have HO167 := n6_
                  have BK118 := n7_
                  have HB := n8_
                  clear n0_ n1_ n2_ n3_ n4_ n5_ n6_ n7_ n8_
                  clear hb ho48
                  refine hK.out _ _ ⟨(blk_cell BK118.out 0).trans rfl, (blk_cell BK118.out 1).trans rfl, (blk_cell BK118.out 2).trans rfl, (blk_cell BK118.out 3).trans rfl⟩ (fun hHeld => ?_)
                  clear hK K
                  refine norm_ (a' := ?_) ?_ ?_
                  rotate_left
                  ·
                   show Act.put _ (some 33) _ = _
                   simp only [Act.put, List.setIfInBounds_toArray, List.set_cons_zero, List.set_cons_succ, i64_w, i32_w]
                   rfl
                  exact norm_ (by first | (simp only [putAll, Act.put, List.setIfInBounds_toArray, List.set_cons_zero, List.set_cons_succ]; done) | (simp only [putAll, Act.put, List.setIfInBounds_toArray, List.set_cons_zero, List.set_cons_succ]; rfl)) (hJ12_13_14_18_19 (v156, v159, v163, v166) _ ⟨hHeld, (by (with_reducible repeat (first | apply Kd.N_alloc | apply Kd.N_drewN | apply Kd.N_drew)); exact Kd.N_mono HO136.out (fun _ hk => ⟨hk.1.1, ⟨hk.1.2.1, ⟨hk.1.2.2.1, ⟨hk.2, hk.1.2.2.2⟩⟩⟩⟩)), (by (with_reducible repeat (first | apply Kd.V_alloc | apply Kd.V_drewN | apply Kd.V_drew)); exact Kd.V_mono HO145.out (fun _ hk => ⟨hk.1.1, ⟨hk.1.2.1, ⟨hk.1.2.2.1, ⟨hk.2, hk.1.2.2.2⟩⟩⟩⟩)), (by (with_reducible repeat (first | apply Kd.V_alloc | apply Kd.V_drewN | apply Kd.V_drew)); exact Kd.V_mono HO154.out (fun _ hk => ⟨hk.1.1, ⟨hk.1.2.1, ⟨hk.1.2.2.1, ⟨hk.2, hk.1.2.2.2⟩⟩⟩⟩)), (by (with_reducible repeat (first | apply Kd.R_alloc | apply Kd.R_drewN | apply Kd.R_drew)); exact Kd.R_mono HO157.out (fun _ hk => ⟨hk.1.1, ⟨hk.1.2, hk.2⟩⟩)), (by (with_reducible repeat (first | apply Kd.R_alloc | apply Kd.R_drewN | apply Kd.R_drew)); exact Kd.R_mono HO160.out (fun _ hk => ⟨hk.1.1, ⟨hk.1.2, hk.2⟩⟩)), (by (with_reducible repeat (first | apply Kd.R_alloc | apply Kd.R_drewN | apply Kd.R_drew)); exact Kd.R_mono HO164.out (fun _ hk => ⟨hk.1.1, ⟨hk.1.2, hk.2⟩⟩)), (by (with_reducible repeat (first | apply Kd.R_alloc | apply Kd.R_drewN | apply Kd.R_drew)); exact Kd.R_mono HO167.out (fun _ hk => ⟨hk.1.1.2, ⟨hk.1.2, hk.2⟩⟩)), blk_, bel_⟩)
                ·
                 skip
                 rintro ⟨v156, v159, v163, v166⟩ w48 ⟨hS_, h0_, h1_, h2_, h3_, h4_, h5_, h6_, h7_, h8_⟩
                 have n0_ : Sd (Kd.N (Kd.slice 28 k28) 51 w48 w.heap.size (fun k_ => some k_ ≠ (v156 : Value).ownBlock ∧ some k_ ≠ (v159 : Value).ownBlock ∧ some k_ ≠ (v163 : Value).ownBlock ∧ some k_ ≠ (v166 : Value).ownBlock ∧ k_ ≠ gb118) (.slice Ao36 y134.length co36) y134) := ⟨h0_⟩
                 have n1_ : Sd (Kd.V k53 53 w48 w.heap.size (fun k_ => some k_ ≠ (v156 : Value).ownBlock ∧ some k_ ≠ (v159 : Value).ownBlock ∧ some k_ ≠ (v163 : Value).ownBlock ∧ some k_ ≠ (v166 : Value).ownBlock ∧ k_ ≠ gb118) v144 t143) := ⟨h1_⟩
                 have n2_ : Sd (Kd.V k53 53 w48 w.heap.size (fun k_ => some k_ ≠ (v156 : Value).ownBlock ∧ some k_ ≠ (v159 : Value).ownBlock ∧ some k_ ≠ (v163 : Value).ownBlock ∧ some k_ ≠ (v166 : Value).ownBlock ∧ k_ ≠ gb118) v153 t152) := ⟨h2_⟩
                 have n3_ : Sd (Kd.R (Kd.int .i64) 3 w48 w.heap.size (fun k_ => some k_ ≠ (v159 : Value).ownBlock ∧ some k_ ≠ (v163 : Value).ownBlock ∧ some k_ ≠ (v166 : Value).ownBlock) v156 t155) := ⟨h3_⟩
                 have n4_ : Sd (Kd.R (Kd.int .i64) 3 w48 w.heap.size (fun k_ => some k_ ≠ (v156 : Value).ownBlock ∧ some k_ ≠ (v163 : Value).ownBlock ∧ some k_ ≠ (v166 : Value).ownBlock) v159 y158) := ⟨h4_⟩
                 have n5_ : Sd (Kd.R (Kd.int .i64) 3 w48 w.heap.size (fun k_ => some k_ ≠ (v156 : Value).ownBlock ∧ some k_ ≠ (v159 : Value).ownBlock ∧ some k_ ≠ (v166 : Value).ownBlock) v163 t162) := ⟨h5_⟩
                 have n6_ : Sd (Kd.R (Kd.int .i64) 3 w48 w.heap.size (fun k_ => some k_ ≠ (v156 : Value).ownBlock ∧ some k_ ≠ (v159 : Value).ownBlock ∧ some k_ ≠ (v163 : Value).ownBlock) v166 y165) := ⟨h6_⟩
                 have n7_ : Sd (w48.heap[gb118]? = some (.cells #[.int .i64 1, .int .i64 0, .int .i64 0, .string (⟨#[97]⟩ : ByteArray)] 53 (0, 0))) := ⟨h7_⟩
                 have n8_ : Sd (Below w.heap.size w w48) := ⟨h8_⟩
                 clear HO136
                 clear BK118
                 clear HB
                 clear h0_ h1_ h2_ h3_ h4_ h5_ h6_ h7_ h8_
                 have HO136 := n0_
                 have HO145 := n1_
                 have HO154 := n2_
                 have HO157 := n3_
                 have HO160 := n4_
                 have HO164 := n5_
                 have HO167 := n6_
                 have BK118 := n7_
                 have HB := n8_
                 clear n0_ n1_ n2_ n3_ n4_ n5_ n6_ n7_ n8_
                 have hHeld : w48.cell? ⟨gb118, 0, none⟩ = some (.int .i64 1) ∧ w48.cell? ⟨gb118, 1, none⟩ = some (.int .i64 0) ∧ w48.cell? ⟨gb118, 2, none⟩ = some (.int .i64 0) ∧ w48.cell? ⟨gb118, 3, none⟩ = some (.string (⟨#[97]⟩ : ByteArray)) := hS_
                 obtain ⟨Ao49, co49, eo49⟩ := Kd.R_slice HO164.out
                 (first | subst eo49 | (injection eo49 with f1_ f2_ f3_; have f4_ := f1_.symm; have f5_ := f3_.symm; clear f1_ f2_ f3_; subst f4_; subst f5_))
                 obtain ⟨Ao50, co50, eo50⟩ := Kd.R_slice HO167.out
                 (first | subst eo50 | (injection eo50 with f1_ f2_ f3_; have f4_ := f1_.symm; have f5_ := f3_.symm; clear f1_ f2_ f3_; subst f4_; subst f5_))
                 refine norm_ (a' := ?_) ?_ ?_
                 rotate_left
                 ·
                  simp only [putAll, Act.put, List.setIfInBounds_toArray, List.set_cons_zero, List.set_cons_succ]
                  rfl
                 refine one_ (i := 20) (N := some 34) #[true,true,true,true,true,true,true,true,true,true,true,true,true,true,true,true,true,true,true,true,true,false,false,false,false,false,false,false,false,false,false,false,false,false,false,false,false,false,false,false] rfl rfl (one_of HT_.out (by kernel_rfl)) (by decide) (fun K hK => ?_)
                 refine goes_ Try.func14 (by kernel_rfl) rfl #[.slice Ao49 t162.length co49, .slice Ao50 y165.length co50] (by rfl) rfl rfl (by (try simp only [List.map_toArray, List.map_cons, List.map_nil]); first | done | rfl | (simp only [List.length_drop, List.length_take]; rfl)) ?_
                 with_reducible refine (r06Ints.calls k _ _ t162 _ _ y165 true _ ?side1 ?side2 ?side3 ?side4 A9.out).mono ?_
                 (case side1 => repeat (first | exact (Kd.R_reads' HO164.out).2.2 | (with_reducible refine Kd.C_alloc ?_ _) | (with_reducible refine Kd.C_drewN ?_ _) | (with_reducible refine Kd.C_drew ?_)))
                 (case side2 => exact (Kd.R_reads' HO164.out).2.1)
                 (case side3 => repeat (first | exact (Kd.R_reads' HO167.out).2.2 | (with_reducible refine Kd.C_alloc ?_ _) | (with_reducible refine Kd.C_drewN ?_ _) | (with_reducible refine Kd.C_drew ?_)))
                 (case side4 => exact (Kd.R_reads' HO167.out).2.1)
                 rintro e w' ⟨rfl, ⟨nd, rfl⟩⟩
                 refine ⟨_, rfl, ?_⟩
                 refine hK.out _ _ ⟨(blk_cell BK118.out 0).trans rfl, (blk_cell BK118.out 1).trans rfl, (blk_cell BK118.out 2).trans rfl, (blk_cell BK118.out 3).trans rfl⟩ (fun hHeld => ?_)
                 clear hK K
                 refine norm_ (a' := ?_) ?_ ?_
                 rotate_left
                 ·
                  show Act.put _ (some 34) _ = _
                  simp only [Act.put, List.setIfInBounds_toArray, List.set_cons_zero, List.set_cons_succ, i64_w, i32_w]
                  rfl
                 refine pure_ (i := 21) (N := some 35) (v := ?_) (a' := ?_) #[true,true,true,true,true,true,true,true,true,true,true,true,true,true,true,true,true,true,true,true,true,true,false,false,false,false,false,false,false,false,false,false,false,false,false,false,false,false,false,false] rfl rfl (any_of HT_.out (by kernel_rfl)) (fun _ _ _ h => h) (Or.inl ⟨by rfl, ?_⟩) ?_ ?_
                 rotate_left
                 ·
                  intro w'
                  go_simp
                  with_reducible rfl
                 rotate_left
                 ·
                  simp only [Act.put, List.setIfInBounds_toArray, List.set_cons_zero, List.set_cons_succ, i64_w, i32_w]
                  rfl
                 refine pure_ (i := 22) (N := some 36) (v := ?_) (a' := ?_) #[true,true,true,true,true,true,true,true,true,true,true,true,true,true,true,true,true,true,true,true,true,true,true,false,false,false,false,false,false,false,false,false,false,false,false,false,false,false,false,false] rfl rfl (any_of HT_.out (by kernel_rfl)) (fun _ _ _ h => h) (Or.inl ⟨by rfl, ?_⟩) ?_ ?_
                 rotate_left
                 ·
                  intro w'
                  go_simp
                  with_reducible rfl
                 rotate_left
                 ·
                  simp only [Act.put, List.setIfInBounds_toArray, List.set_cons_zero, List.set_cons_succ, i64_w, i32_w]
                  rfl
                 refine pure_ (i := 23) (N := some 37) (v := ?_) (a' := ?_) #[true,true,true,true,true,true,true,true,true,true,true,true,true,true,true,true,true,true,true,true,true,true,true,true,false,false,false,false,false,false,false,false,false,false,false,false,false,false,false,false] rfl rfl (any_of HT_.out (by kernel_rfl)) (fun _ _ _ h => h) (Or.inl ⟨by rfl, ?_⟩) ?_ ?_
                 rotate_left
                 ·
                  intro w'
                  go_simp
                  with_reducible rfl
                 rotate_left
                 ·
                  simp only [Act.put, List.setIfInBounds_toArray, List.set_cons_zero, List.set_cons_succ, i64_w, i32_w]
                  rfl
                 refine take_ (i := 25) (N := some 39) (v := ?_) (a' := ?_) #[true,true,true,true,true,true,true,true,true,true,true,true,true,true,true,true,true,true,true,true,true,true,true,true,false,true,false,false,false,false,false,false,false,false,false,false,false,false,false,false] rfl rfl (take_ofW HT_.out HW_.out (by kernel_rfl)) (fun _ _ _ h => h) (Or.inl ⟨by rfl, ?_⟩) hHeld ?_ ?_
                 rotate_left
                 ·
                  rintro w' ⟨s0, s1, s2, s3⟩
                  go_simp
                  with_reducible rfl
                 rotate_left
                 ·
                  simp only [Act.put, List.setIfInBounds_toArray, List.set_cons_zero, List.set_cons_succ, i64_w, i32_w]
                  rfl
                 exact norm_ (by first | (simp only [putAll, Act.put, List.setIfInBounds_toArray, List.set_cons_zero, List.set_cons_succ]; done) | (simp only [putAll, Act.put, List.setIfInBounds_toArray, List.set_cons_zero, List.set_cons_succ]; rfl)) (hJ12_13_14_18_19_20 (v156, v159, .slice Ao49 t162.length co49, .slice Ao50 y165.length co50) _ ⟨hHeld, (q30N HO136.out), (q30V HO145.out), (q30V HO154.out), (q30R HO157.out), (q30R HO160.out), (q30R HO164.out), (q30R HO167.out), blk_, bel_⟩)
               ·
                skip
                rintro ⟨v156, v159, v163, v166⟩ w50 ⟨hS_, h0_, h1_, h2_, h3_, h4_, h5_, h6_, h7_, h8_⟩
                have n0_ : Sd (Kd.N (Kd.slice 28 k28) 51 w50 w.heap.size (fun k_ => some k_ ≠ (v156 : Value).ownBlock ∧ some k_ ≠ (v159 : Value).ownBlock ∧ some k_ ≠ (v163 : Value).ownBlock ∧ some k_ ≠ (v166 : Value).ownBlock ∧ k_ ≠ gb118) (.slice Ao36 y134.length co36) y134) := ⟨h0_⟩
                have n1_ : Sd (Kd.V k53 53 w50 w.heap.size (fun k_ => some k_ ≠ (v156 : Value).ownBlock ∧ some k_ ≠ (v159 : Value).ownBlock ∧ some k_ ≠ (v163 : Value).ownBlock ∧ some k_ ≠ (v166 : Value).ownBlock ∧ k_ ≠ gb118) v144 t143) := ⟨h1_⟩
                have n2_ : Sd (Kd.V k53 53 w50 w.heap.size (fun k_ => some k_ ≠ (v156 : Value).ownBlock ∧ some k_ ≠ (v159 : Value).ownBlock ∧ some k_ ≠ (v163 : Value).ownBlock ∧ some k_ ≠ (v166 : Value).ownBlock ∧ k_ ≠ gb118) v153 t152) := ⟨h2_⟩
                have n3_ : Sd (Kd.R (Kd.int .i64) 3 w50 w.heap.size (fun k_ => some k_ ≠ (v159 : Value).ownBlock ∧ some k_ ≠ (v163 : Value).ownBlock ∧ some k_ ≠ (v166 : Value).ownBlock) v156 t155) := ⟨h3_⟩
                have n4_ : Sd (Kd.R (Kd.int .i64) 3 w50 w.heap.size (fun k_ => some k_ ≠ (v156 : Value).ownBlock ∧ some k_ ≠ (v163 : Value).ownBlock ∧ some k_ ≠ (v166 : Value).ownBlock) v159 y158) := ⟨h4_⟩
                have n5_ : Sd (Kd.R (Kd.int .i64) 3 w50 w.heap.size (fun k_ => some k_ ≠ (v156 : Value).ownBlock ∧ some k_ ≠ (v159 : Value).ownBlock ∧ some k_ ≠ (v166 : Value).ownBlock) v163 t162) := ⟨h5_⟩
                have n6_ : Sd (Kd.R (Kd.int .i64) 3 w50 w.heap.size (fun k_ => some k_ ≠ (v156 : Value).ownBlock ∧ some k_ ≠ (v159 : Value).ownBlock ∧ some k_ ≠ (v163 : Value).ownBlock) v166 y165) := ⟨h6_⟩
                have n7_ : Sd (w50.heap[gb118]? = some (.cells #[.int .i64 1, .int .i64 0, .int .i64 0, .string (⟨#[97]⟩ : ByteArray)] 53 (0, 0))) := ⟨h7_⟩
                have n8_ : Sd (Below w.heap.size w w50) := ⟨h8_⟩
                clear HO136
                clear BK118
                clear HB
                clear h0_ h1_ h2_ h3_ h4_ h5_ h6_ h7_ h8_
                have HO136 := n0_
                have HO145 := n1_
                have HO154 := n2_
                have HO157 := n3_
                have HO160 := n4_
                have HO164 := n5_
                have HO167 := n6_
                have BK118 := n7_
                have HB := n8_
                clear n0_ n1_ n2_ n3_ n4_ n5_ n6_ n7_ n8_
                have hHeld : w50.cell? ⟨gb118, 0, none⟩ = some (.int .i64 1) ∧ w50.cell? ⟨gb118, 1, none⟩ = some (.int .i64 0) ∧ w50.cell? ⟨gb118, 2, none⟩ = some (.int .i64 0) ∧ w50.cell? ⟨gb118, 3, none⟩ = some (.string (⟨#[97]⟩ : ByteArray)) := hS_
                refine norm_ (a' := ?_) ?_ ?_
                rotate_left
                ·
                 simp only [putAll, Act.put, List.setIfInBounds_toArray, List.set_cons_zero, List.set_cons_succ]
                 rfl
                refine two_ (i := 24) (j := 26) (Ni := some 38) (Nj := some 40) #[true,true,true,true,true,true,true,true,true,true,true,true,true,true,true,true,true,true,true,true,true,true,true,true,true,true,false,false,false,false,false,false,false,false,false,false,false,false,false,false] #[true,true,true,true,true,true,true,true,true,true,true,true,true,true,true,true,true,true,true,true,true,true,true,true,false,true,true,false,false,false,false,false,false,false,false,false,false,false,false,false] rfl rfl rfl rfl (two_of HT_.out (by kernel_rfl)) (by decide) (by decide) (fun K hK => ?_) (fun K hK => ?_)
                ·
                 skip
                 refine goes_ Try.func20 (by kernel_rfl) rfl #[.slice Ao36 y134.length co36, .int .i64 0, .int .i64 0, .int .i64 2] (by rfl) rfl rfl (by (try simp only [List.map_toArray, List.map_cons, List.map_nil]); first | done | rfl | (simp only [List.length_drop, List.length_take]; rfl)) ?_
                 with_reducible refine (trace_Got.calls _ _ y134 0 0 2 t169 _ ?side1 ?side2 A11.out).mono ?_
                 (case side1 => repeat (first | exact (Kd.N_reads' HO136.out).2.2 | (with_reducible refine Kd.C_alloc ?_ _) | (with_reducible refine Kd.C_drewN ?_ _) | (with_reducible refine Kd.C_drew ?_)))
                 (case side2 => exact (Kd.N_reads' HO136.out).2.1)
                 rintro e w51 ⟨v170, rfl, ho0, hb⟩
                 refine ⟨_, rfl, ?_⟩
                 have n0_ := Sd.mk (Kd.N_elder' (q30N HO136.out) (Kd.R_base ho0) hb)
                 have n1_ := Sd.mk (Kd.V_elder' (q30V HO145.out) (Kd.R_base ho0) hb)
                 have n2_ := Sd.mk (Kd.V_elder' (q30V HO154.out) (Kd.R_base ho0) hb)
                 have n3_ := Sd.mk (Kd.R_below (q30R HO157.out) hb)
                 have n4_ := Sd.mk (Kd.R_below (q30R HO160.out) hb)
                 have n5_ := Sd.mk (Kd.R_below (q30R HO164.out) hb)
                 have n6_ := Sd.mk (Kd.R_below (q30R HO167.out) hb)
                 have n7_ := Sd.mk (Kd.R_lower (Kd.R_newB ho0 (g := gb118) (o := .cells #[.int .i64 1, .int .i64 0, .int .i64 0, .string (⟨#[97]⟩ : ByteArray)] 53 (0, 0)) blk_) (below_size bel_))
                 have n8_ := Sd.mk (blk_below (g := gb118) (o := .cells #[.int .i64 1, .int .i64 0, .int .i64 0, .string (⟨#[97]⟩ : ByteArray)] 53 (0, 0)) blk_ hb)
                 have n9_ := Sd.mk (below_step bel_ hb)
                 clear HO136
                 clear HO145
                 clear HO154
                 clear HO157
                 clear HO160
                 clear HO164
                 clear HO167
                 clear BK118
                 clear HB
                 have HO136 := n0_
                 have HO145 := n1_
                 have HO154 := n2_
                 have HO157 := n3_
                 have HO160 := n4_
                 have HO164 := n5_
                 have HO167 := n6_
                 have HO171 := n7_
                 have BK118 := n8_
                 have HB := n9_
                 clear n0_ n1_ n2_ n3_ n4_ n5_ n6_ n7_ n8_ n9_
                 (try clear hb)
                 (try clear hb2)
                 (try clear hk)
                 (try clear hi)
                 (try clear ho0)
                 refine hK.out _ _ ⟨(blk_cell BK118.out 0).trans rfl, (blk_cell BK118.out 1).trans rfl, (blk_cell BK118.out 2).trans rfl, (blk_cell BK118.out 3).trans rfl⟩ (fun hHeld => ?_)
                 clear hK K
                 refine norm_ (a' := ?_) ?_ ?_
                 rotate_left
                 ·
                  show Act.put _ (some 38) _ = _
                  simp only [Act.put, List.setIfInBounds_toArray, List.set_cons_zero, List.set_cons_succ, i64_w, i32_w]
                  rfl
                 exact norm_ (by first | (simp only [putAll, Act.put, List.setIfInBounds_toArray, List.set_cons_zero, List.set_cons_succ]; done) | (simp only [putAll, Act.put, List.setIfInBounds_toArray, List.set_cons_zero, List.set_cons_succ]; rfl)) (hJ12_13_14_18_19_20_24 (v156, v159, v163, v166, v170) _ ⟨hHeld, (by (with_reducible repeat (first | apply Kd.N_alloc | apply Kd.N_drewN | apply Kd.N_drew)); exact Kd.N_mono HO136.out (fun _ hk => ⟨hk.1.1, ⟨hk.1.2.1, ⟨hk.1.2.2.1, ⟨hk.1.2.2.2.1, ⟨hk.2, hk.1.2.2.2.2⟩⟩⟩⟩⟩)), (by (with_reducible repeat (first | apply Kd.V_alloc | apply Kd.V_drewN | apply Kd.V_drew)); exact Kd.V_mono HO145.out (fun _ hk => ⟨hk.1.1, ⟨hk.1.2.1, ⟨hk.1.2.2.1, ⟨hk.1.2.2.2.1, ⟨hk.2, hk.1.2.2.2.2⟩⟩⟩⟩⟩)), (by (with_reducible repeat (first | apply Kd.V_alloc | apply Kd.V_drewN | apply Kd.V_drew)); exact Kd.V_mono HO154.out (fun _ hk => ⟨hk.1.1, ⟨hk.1.2.1, ⟨hk.1.2.2.1, ⟨hk.1.2.2.2.1, ⟨hk.2, hk.1.2.2.2.2⟩⟩⟩⟩⟩)), (q30R HO157.out), (q30R HO160.out), (q30R HO164.out), (q30R HO167.out), (by (with_reducible repeat (first | apply Kd.R_alloc | apply Kd.R_drewN | apply Kd.R_drew)); exact Kd.R_mono HO171.out (fun _ hk => hk.2)), blk_, bel_⟩)
                ·
                 skip
                 refine Kd.R_lit_step k53 _ 53 ?hg (N := 40) ?hd (xs := ([(⟨1, 0, 0, (⟨#[97]⟩ : ByteArray)⟩ : S53)] : List (S53))) (inner := [.int .i64 1, .int .i64 0, .int .i64 0, .string (⟨#[97]⟩ : ByteArray)]) (ok := fun _ => True) (okp := fun _ => True) ?hr ?hp (fun _ hk => hk) trivial (Below.refl _ _) (Nat.le_refl _) (by simp) ?_; (case hd => rfl); (case hg => rfl); (case hr => first | (go_simp; done) | (go_simp; rfl)); (case hp => exact (Reps.c4 (show Kd.M k53 _ _ _ (⟨1, 0, 0, (⟨#[97]⟩ : ByteArray)⟩ : S53) [.int .i64 1, .int .i64 0, .int .i64 0, .string (⟨#[97]⟩ : ByteArray)] from (k53_mkM _ _ _ (⟨1, 0, 0, (⟨#[97]⟩ : ByteArray)⟩ : S53) )) (Reps.none _ _)))
                 intro v173 w51 ho52 hb hg_ hnew_
                 clear hg_ hnew_
                 (first | rw [← Ny172.out] at ho52 | (simp only [Int.reduceToNat] at ho52; rw [← Ny172.out] at ho52))
                 have n0_ := Sd.mk (Kd.N_elder' (q30N HO136.out) (Kd.R_base ho52) hb)
                 have n1_ := Sd.mk (Kd.V_elder' (q30V HO145.out) (Kd.R_base ho52) hb)
                 have n2_ := Sd.mk (Kd.V_elder' (q30V HO154.out) (Kd.R_base ho52) hb)
                 have n3_ := Sd.mk (Kd.R_below (q30R HO157.out) hb)
                 have n4_ := Sd.mk (Kd.R_below (q30R HO160.out) hb)
                 have n5_ := Sd.mk (Kd.R_below (q30R HO164.out) hb)
                 have n6_ := Sd.mk (Kd.R_below (q30R HO167.out) hb)
                 have n7_ := Sd.mk (Kd.R_lower (Kd.R_newB ho52 (g := gb118) (o := .cells #[.int .i64 1, .int .i64 0, .int .i64 0, .string (⟨#[97]⟩ : ByteArray)] 53 (0, 0)) blk_) (below_size bel_))
                 have n8_ := Sd.mk (blk_below (g := gb118) (o := .cells #[.int .i64 1, .int .i64 0, .int .i64 0, .string (⟨#[97]⟩ : ByteArray)] 53 (0, 0)) blk_ hb)
                 have n9_ := Sd.mk (below_step bel_ hb)
                 clear HO136
                 clear HO145
                 clear HO154
                 clear HO157
                 clear HO160
                 clear HO164
                 clear HO167
                 clear BK118
                 clear HB
                 have HO136 := n0_
                 have HO145 := n1_
                 have HO154 := n2_
                 have HO157 := n3_
                 have HO160 := n4_
                 have HO164 := n5_
                 have HO167 := n6_
                 have HO174 := n7_
                 have BK118 := n8_
                 have HB := n9_
                 clear n0_ n1_ n2_ n3_ n4_ n5_ n6_ n7_ n8_ n9_
                 clear hb ho52
                 refine hK.out _ _ ⟨(blk_cell BK118.out 0).trans rfl, (blk_cell BK118.out 1).trans rfl, (blk_cell BK118.out 2).trans rfl, (blk_cell BK118.out 3).trans rfl⟩ (fun hHeld => ?_)
                 clear hK K
                 refine norm_ (a' := ?_) ?_ ?_
                 rotate_left
                 ·
                  show Act.put _ (some 40) _ = _
                  simp only [Act.put, List.setIfInBounds_toArray, List.set_cons_zero, List.set_cons_succ, i64_w, i32_w]
                  rfl
                 exact norm_ (by first | (simp only [putAll, Act.put, List.setIfInBounds_toArray, List.set_cons_zero, List.set_cons_succ]; done) | (simp only [putAll, Act.put, List.setIfInBounds_toArray, List.set_cons_zero, List.set_cons_succ]; rfl)) (hJ12_13_14_18_19_20_26 (v156, v159, v163, v166, v173) _ ⟨hHeld, (by (with_reducible repeat (first | apply Kd.N_alloc | apply Kd.N_drewN | apply Kd.N_drew)); exact Kd.N_mono HO136.out (fun _ hk => ⟨hk.1.1, ⟨hk.1.2.1, ⟨hk.1.2.2.1, ⟨hk.1.2.2.2.1, ⟨hk.2, hk.1.2.2.2.2⟩⟩⟩⟩⟩)), (by (with_reducible repeat (first | apply Kd.V_alloc | apply Kd.V_drewN | apply Kd.V_drew)); exact Kd.V_mono HO145.out (fun _ hk => ⟨hk.1.1, ⟨hk.1.2.1, ⟨hk.1.2.2.1, ⟨hk.1.2.2.2.1, ⟨hk.2, hk.1.2.2.2.2⟩⟩⟩⟩⟩)), (by (with_reducible repeat (first | apply Kd.V_alloc | apply Kd.V_drewN | apply Kd.V_drew)); exact Kd.V_mono HO154.out (fun _ hk => ⟨hk.1.1, ⟨hk.1.2.1, ⟨hk.1.2.2.1, ⟨hk.1.2.2.2.1, ⟨hk.2, hk.1.2.2.2.2⟩⟩⟩⟩⟩)), (q30R HO157.out), (q30R HO160.out), (q30R HO164.out), (q30R HO167.out), (by (with_reducible repeat (first | apply Kd.R_alloc | apply Kd.R_drewN | apply Kd.R_drew)); exact Kd.R_mono HO174.out (fun _ hk => hk.2)), blk_, bel_⟩)
              ·
               skip
               rintro ⟨v156, v159, v163, v166, v173⟩ w52 ⟨hS_, h0_, h1_, h2_, h3_, h4_, h5_, h6_, h7_, h8_, h9_⟩
               have n0_ : Sd (Kd.N (Kd.slice 28 k28) 51 w52 w.heap.size (fun k_ => some k_ ≠ (v156 : Value).ownBlock ∧ some k_ ≠ (v159 : Value).ownBlock ∧ some k_ ≠ (v163 : Value).ownBlock ∧ some k_ ≠ (v166 : Value).ownBlock ∧ some k_ ≠ (v173 : Value).ownBlock ∧ k_ ≠ gb118) (.slice Ao36 y134.length co36) y134) := ⟨h0_⟩
               have n1_ : Sd (Kd.V k53 53 w52 w.heap.size (fun k_ => some k_ ≠ (v156 : Value).ownBlock ∧ some k_ ≠ (v159 : Value).ownBlock ∧ some k_ ≠ (v163 : Value).ownBlock ∧ some k_ ≠ (v166 : Value).ownBlock ∧ some k_ ≠ (v173 : Value).ownBlock ∧ k_ ≠ gb118) v144 t143) := ⟨h1_⟩
               have n2_ : Sd (Kd.V k53 53 w52 w.heap.size (fun k_ => some k_ ≠ (v156 : Value).ownBlock ∧ some k_ ≠ (v159 : Value).ownBlock ∧ some k_ ≠ (v163 : Value).ownBlock ∧ some k_ ≠ (v166 : Value).ownBlock ∧ some k_ ≠ (v173 : Value).ownBlock ∧ k_ ≠ gb118) v153 t152) := ⟨h2_⟩
               have n3_ : Sd (Kd.R (Kd.int .i64) 3 w52 w.heap.size (fun k_ => some k_ ≠ (v159 : Value).ownBlock ∧ some k_ ≠ (v163 : Value).ownBlock ∧ some k_ ≠ (v166 : Value).ownBlock) v156 t155) := ⟨h3_⟩
               have n4_ : Sd (Kd.R (Kd.int .i64) 3 w52 w.heap.size (fun k_ => some k_ ≠ (v156 : Value).ownBlock ∧ some k_ ≠ (v163 : Value).ownBlock ∧ some k_ ≠ (v166 : Value).ownBlock) v159 y158) := ⟨h4_⟩
               have n5_ : Sd (Kd.R (Kd.int .i64) 3 w52 w.heap.size (fun k_ => some k_ ≠ (v156 : Value).ownBlock ∧ some k_ ≠ (v159 : Value).ownBlock ∧ some k_ ≠ (v166 : Value).ownBlock) v163 t162) := ⟨h5_⟩
               have n6_ : Sd (Kd.R (Kd.int .i64) 3 w52 w.heap.size (fun k_ => some k_ ≠ (v156 : Value).ownBlock ∧ some k_ ≠ (v159 : Value).ownBlock ∧ some k_ ≠ (v163 : Value).ownBlock) v166 y165) := ⟨h6_⟩
               have n7_ : Sd (Kd.R k53 53 w52 w.heap.size (fun k_ => k_ ≠ gb118) v173 y172) := ⟨h7_⟩
               have n8_ : Sd (w52.heap[gb118]? = some (.cells #[.int .i64 1, .int .i64 0, .int .i64 0, .string (⟨#[97]⟩ : ByteArray)] 53 (0, 0))) := ⟨h8_⟩
               have n9_ : Sd (Below w.heap.size w w52) := ⟨h9_⟩
               clear HO136
               clear BK118
               clear HB
               clear h0_ h1_ h2_ h3_ h4_ h5_ h6_ h7_ h8_ h9_
               have HO136 := n0_
               have HO145 := n1_
               have HO154 := n2_
               have HO157 := n3_
               have HO160 := n4_
               have HO164 := n5_
               have HO167 := n6_
               have HO174 := n7_
               have BK118 := n8_
               have HB := n9_
               clear n0_ n1_ n2_ n3_ n4_ n5_ n6_ n7_ n8_ n9_
               have hHeld : w52.cell? ⟨gb118, 0, none⟩ = some (.int .i64 1) ∧ w52.cell? ⟨gb118, 1, none⟩ = some (.int .i64 0) ∧ w52.cell? ⟨gb118, 2, none⟩ = some (.int .i64 0) ∧ w52.cell? ⟨gb118, 3, none⟩ = some (.string (⟨#[97]⟩ : ByteArray)) := hS_
               refine norm_ (a' := ?_) ?_ ?_
               rotate_left
               ·
                simp only [putAll, Act.put, List.setIfInBounds_toArray, List.set_cons_zero, List.set_cons_succ]
                rfl
               refine one_ (i := 24) (N := some 38) #[true,true,true,true,true,true,true,true,true,true,true,true,true,true,true,true,true,true,true,true,true,true,true,true,true,true,true,false,false,false,false,false,false,false,false,false,false,false,false,false] rfl rfl (one_of HT_.out (by kernel_rfl)) (by decide) (fun K hK => ?_)
               refine goes_ Try.func20 (by kernel_rfl) rfl #[.slice Ao36 y134.length co36, .int .i64 0, .int .i64 0, .int .i64 2] (by rfl) rfl rfl (by (try simp only [List.map_toArray, List.map_cons, List.map_nil]); first | done | rfl | (simp only [List.length_drop, List.length_take]; rfl)) ?_
               with_reducible refine (trace_Got.calls _ _ y134 0 0 2 t169 _ ?side1 ?side2 A11.out).mono ?_
               (case side1 => repeat (first | exact (Kd.N_reads' HO136.out).2.2 | (with_reducible refine Kd.C_alloc ?_ _) | (with_reducible refine Kd.C_drewN ?_ _) | (with_reducible refine Kd.C_drew ?_)))
               (case side2 => exact (Kd.N_reads' HO136.out).2.1)
               rintro e w53 ⟨v170, rfl, ho0, hb⟩
               refine ⟨_, rfl, ?_⟩
               have n0_ := Sd.mk (Kd.N_elder' (q30N HO136.out) (Kd.R_base ho0) hb)
               have n1_ := Sd.mk (Kd.V_elder' (q30V HO145.out) (Kd.R_base ho0) hb)
               have n2_ := Sd.mk (Kd.V_elder' (q30V HO154.out) (Kd.R_base ho0) hb)
               have n3_ := Sd.mk (Kd.R_below (q30R HO157.out) hb)
               have n4_ := Sd.mk (Kd.R_below (q30R HO160.out) hb)
               have n5_ := Sd.mk (Kd.R_below (q30R HO164.out) hb)
               have n6_ := Sd.mk (Kd.R_below (q30R HO167.out) hb)
               have n7_ := Sd.mk (Kd.R_elder' (q30R HO174.out) (Kd.R_base ho0) hb)
               have n8_ := Sd.mk (Kd.R_lower (Kd.R_newB (Kd.R_new' ho0 (Kd.R_lt (q30R HO174.out))) (g := gb118) (o := .cells #[.int .i64 1, .int .i64 0, .int .i64 0, .string (⟨#[97]⟩ : ByteArray)] 53 (0, 0)) blk_) (below_size bel_))
               have n9_ := Sd.mk (blk_below (g := gb118) (o := .cells #[.int .i64 1, .int .i64 0, .int .i64 0, .string (⟨#[97]⟩ : ByteArray)] 53 (0, 0)) blk_ hb)
               have n10_ := Sd.mk (below_step bel_ hb)
               clear HO136
               clear HO145
               clear HO154
               clear HO157
               clear HO160
               clear HO164
               clear HO167
               clear HO174
               clear BK118
               clear HB
               have HO136 := n0_
               have HO145 := n1_
               have HO154 := n2_
               have HO157 := n3_
               have HO160 := n4_
               have HO164 := n5_
               have HO167 := n6_
               have HO174 := n7_
               have HO171 := n8_
               have BK118 := n9_
               have HB := n10_
               clear n0_ n1_ n2_ n3_ n4_ n5_ n6_ n7_ n8_ n9_ n10_
               (try clear hb)
               (try clear hb2)
               (try clear hk)
               (try clear hi)
               (try clear ho0)
               refine hK.out _ _ ⟨(blk_cell BK118.out 0).trans rfl, (blk_cell BK118.out 1).trans rfl, (blk_cell BK118.out 2).trans rfl, (blk_cell BK118.out 3).trans rfl⟩ (fun hHeld => ?_)
               clear hK K
               refine norm_ (a' := ?_) ?_ ?_
               rotate_left
               ·
                show Act.put _ (some 38) _ = _
                simp only [Act.put, List.setIfInBounds_toArray, List.set_cons_zero, List.set_cons_succ, i64_w, i32_w]
                rfl
               exact norm_ (by first | (simp only [putAll, Act.put, List.setIfInBounds_toArray, List.set_cons_zero, List.set_cons_succ]; done) | (simp only [putAll, Act.put, List.setIfInBounds_toArray, List.set_cons_zero, List.set_cons_succ]; rfl)) (hJ12_13_14_18_19_20_24_26 (v156, v159, v163, v166, v170, v173) _ ⟨hHeld, (by (with_reducible repeat (first | apply Kd.N_alloc | apply Kd.N_drewN | apply Kd.N_drew)); exact Kd.N_mono HO136.out (fun _ hk => ⟨hk.1.1, ⟨hk.1.2.1, ⟨hk.1.2.2.1, ⟨hk.1.2.2.2.1, ⟨hk.2, ⟨hk.1.2.2.2.2.1, hk.1.2.2.2.2.2⟩⟩⟩⟩⟩⟩)), (by (with_reducible repeat (first | apply Kd.V_alloc | apply Kd.V_drewN | apply Kd.V_drew)); exact Kd.V_mono HO145.out (fun _ hk => ⟨hk.1.1, ⟨hk.1.2.1, ⟨hk.1.2.2.1, ⟨hk.1.2.2.2.1, ⟨hk.2, ⟨hk.1.2.2.2.2.1, hk.1.2.2.2.2.2⟩⟩⟩⟩⟩⟩)), (by (with_reducible repeat (first | apply Kd.V_alloc | apply Kd.V_drewN | apply Kd.V_drew)); exact Kd.V_mono HO154.out (fun _ hk => ⟨hk.1.1, ⟨hk.1.2.1, ⟨hk.1.2.2.1, ⟨hk.1.2.2.2.1, ⟨hk.2, ⟨hk.1.2.2.2.2.1, hk.1.2.2.2.2.2⟩⟩⟩⟩⟩⟩)), (q30R HO157.out), (q30R HO160.out), (q30R HO164.out), (q30R HO167.out), (by (with_reducible repeat (first | apply Kd.R_alloc | apply Kd.R_drewN | apply Kd.R_drew)); exact Kd.R_mono HO171.out (fun _ hk => ⟨hk.1.2, hk.2⟩)), (by (with_reducible repeat (first | apply Kd.R_alloc | apply Kd.R_drewN | apply Kd.R_drew)); exact Kd.R_mono HO174.out (fun _ hk => ⟨hk.2, hk.1⟩)), blk_, bel_⟩)
             ·
              skip
              rintro ⟨v156, v159, v163, v166, v170⟩ w51 ⟨hS_, h0_, h1_, h2_, h3_, h4_, h5_, h6_, h7_, h8_, h9_⟩
              have n0_ : Sd (Kd.N (Kd.slice 28 k28) 51 w51 w.heap.size (fun k_ => some k_ ≠ (v156 : Value).ownBlock ∧ some k_ ≠ (v159 : Value).ownBlock ∧ some k_ ≠ (v163 : Value).ownBlock ∧ some k_ ≠ (v166 : Value).ownBlock ∧ some k_ ≠ (v170 : Value).ownBlock ∧ k_ ≠ gb118) (.slice Ao36 y134.length co36) y134) := ⟨h0_⟩
              have n1_ : Sd (Kd.V k53 53 w51 w.heap.size (fun k_ => some k_ ≠ (v156 : Value).ownBlock ∧ some k_ ≠ (v159 : Value).ownBlock ∧ some k_ ≠ (v163 : Value).ownBlock ∧ some k_ ≠ (v166 : Value).ownBlock ∧ some k_ ≠ (v170 : Value).ownBlock ∧ k_ ≠ gb118) v144 t143) := ⟨h1_⟩
              have n2_ : Sd (Kd.V k53 53 w51 w.heap.size (fun k_ => some k_ ≠ (v156 : Value).ownBlock ∧ some k_ ≠ (v159 : Value).ownBlock ∧ some k_ ≠ (v163 : Value).ownBlock ∧ some k_ ≠ (v166 : Value).ownBlock ∧ some k_ ≠ (v170 : Value).ownBlock ∧ k_ ≠ gb118) v153 t152) := ⟨h2_⟩
              have n3_ : Sd (Kd.R (Kd.int .i64) 3 w51 w.heap.size (fun k_ => some k_ ≠ (v159 : Value).ownBlock ∧ some k_ ≠ (v163 : Value).ownBlock ∧ some k_ ≠ (v166 : Value).ownBlock) v156 t155) := ⟨h3_⟩
              have n4_ : Sd (Kd.R (Kd.int .i64) 3 w51 w.heap.size (fun k_ => some k_ ≠ (v156 : Value).ownBlock ∧ some k_ ≠ (v163 : Value).ownBlock ∧ some k_ ≠ (v166 : Value).ownBlock) v159 y158) := ⟨h4_⟩
              have n5_ : Sd (Kd.R (Kd.int .i64) 3 w51 w.heap.size (fun k_ => some k_ ≠ (v156 : Value).ownBlock ∧ some k_ ≠ (v159 : Value).ownBlock ∧ some k_ ≠ (v166 : Value).ownBlock) v163 t162) := ⟨h5_⟩
              have n6_ : Sd (Kd.R (Kd.int .i64) 3 w51 w.heap.size (fun k_ => some k_ ≠ (v156 : Value).ownBlock ∧ some k_ ≠ (v159 : Value).ownBlock ∧ some k_ ≠ (v163 : Value).ownBlock) v166 y165) := ⟨h6_⟩
              have n7_ : Sd (Kd.R k53 53 w51 w.heap.size (fun k_ => k_ ≠ gb118) v170 t169) := ⟨h7_⟩
              have n8_ : Sd (w51.heap[gb118]? = some (.cells #[.int .i64 1, .int .i64 0, .int .i64 0, .string (⟨#[97]⟩ : ByteArray)] 53 (0, 0))) := ⟨h8_⟩
              have n9_ : Sd (Below w.heap.size w w51) := ⟨h9_⟩
              clear HO136
              clear BK118
              clear HB
              clear h0_ h1_ h2_ h3_ h4_ h5_ h6_ h7_ h8_ h9_
              have HO136 := n0_
              have HO145 := n1_
              have HO154 := n2_
              have HO157 := n3_
              have HO160 := n4_
              have HO164 := n5_
              have HO167 := n6_
              have HO171 := n7_
              have BK118 := n8_
              have HB := n9_
              clear n0_ n1_ n2_ n3_ n4_ n5_ n6_ n7_ n8_ n9_
              have hHeld : w51.cell? ⟨gb118, 0, none⟩ = some (.int .i64 1) ∧ w51.cell? ⟨gb118, 1, none⟩ = some (.int .i64 0) ∧ w51.cell? ⟨gb118, 2, none⟩ = some (.int .i64 0) ∧ w51.cell? ⟨gb118, 3, none⟩ = some (.string (⟨#[97]⟩ : ByteArray)) := hS_
              refine norm_ (a' := ?_) ?_ ?_
              rotate_left
              ·
               simp only [putAll, Act.put, List.setIfInBounds_toArray, List.set_cons_zero, List.set_cons_succ]
               rfl
              refine one_ (i := 26) (N := some 40) #[true,true,true,true,true,true,true,true,true,true,true,true,true,true,true,true,true,true,true,true,true,true,true,true,true,true,true,false,false,false,false,false,false,false,false,false,false,false,false,false] rfl rfl (one_of HT_.out (by kernel_rfl)) (by decide) (fun K hK => ?_)
              refine Kd.R_lit_step k53 _ 53 ?hg (N := 40) ?hd (xs := ([(⟨1, 0, 0, (⟨#[97]⟩ : ByteArray)⟩ : S53)] : List (S53))) (inner := [.int .i64 1, .int .i64 0, .int .i64 0, .string (⟨#[97]⟩ : ByteArray)]) (ok := fun _ => True) (okp := fun _ => True) ?hr ?hp (fun _ hk => hk) trivial (Below.refl _ _) (Nat.le_refl _) (by simp) ?_; (case hd => rfl); (case hg => rfl); (case hr => first | (go_simp; done) | (go_simp; rfl)); (case hp => exact (Reps.c4 (show Kd.M k53 _ _ _ (⟨1, 0, 0, (⟨#[97]⟩ : ByteArray)⟩ : S53) [.int .i64 1, .int .i64 0, .int .i64 0, .string (⟨#[97]⟩ : ByteArray)] from (k53_mkM _ _ _ (⟨1, 0, 0, (⟨#[97]⟩ : ByteArray)⟩ : S53) )) (Reps.none _ _)))
              intro v173 w52 ho53 hb hg_ hnew_
              clear hg_ hnew_
              (first | rw [← Ny172.out] at ho53 | (simp only [Int.reduceToNat] at ho53; rw [← Ny172.out] at ho53))
              have n0_ := Sd.mk (Kd.N_elder' (q30N HO136.out) (Kd.R_base ho53) hb)
              have n1_ := Sd.mk (Kd.V_elder' (q30V HO145.out) (Kd.R_base ho53) hb)
              have n2_ := Sd.mk (Kd.V_elder' (q30V HO154.out) (Kd.R_base ho53) hb)
              have n3_ := Sd.mk (Kd.R_below (q30R HO157.out) hb)
              have n4_ := Sd.mk (Kd.R_below (q30R HO160.out) hb)
              have n5_ := Sd.mk (Kd.R_below (q30R HO164.out) hb)
              have n6_ := Sd.mk (Kd.R_below (q30R HO167.out) hb)
              have n7_ := Sd.mk (Kd.R_elder' (q30R HO171.out) (Kd.R_base ho53) hb)
              have n8_ := Sd.mk (Kd.R_lower (Kd.R_newB (Kd.R_new' ho53 (Kd.R_lt (q30R HO171.out))) (g := gb118) (o := .cells #[.int .i64 1, .int .i64 0, .int .i64 0, .string (⟨#[97]⟩ : ByteArray)] 53 (0, 0)) blk_) (below_size bel_))
              have n9_ := Sd.mk (blk_below (g := gb118) (o := .cells #[.int .i64 1, .int .i64 0, .int .i64 0, .string (⟨#[97]⟩ : ByteArray)] 53 (0, 0)) blk_ hb)
              have n10_ := Sd.mk (below_step bel_ hb)
              clear HO136
              clear HO145
              clear HO154
              clear HO157
              clear HO160
              clear HO164
              clear HO167
              clear HO171
              clear BK118
              clear HB
              have HO136 := n0_
              have HO145 := n1_
              have HO154 := n2_
              have HO157 := n3_
              have HO160 := n4_
              have HO164 := n5_
              have HO167 := n6_
              have HO171 := n7_
              have HO174 := n8_
              have BK118 := n9_
              have HB := n10_
              clear n0_ n1_ n2_ n3_ n4_ n5_ n6_ n7_ n8_ n9_ n10_
              clear hb ho53
              refine hK.out _ _ ⟨(blk_cell BK118.out 0).trans rfl, (blk_cell BK118.out 1).trans rfl, (blk_cell BK118.out 2).trans rfl, (blk_cell BK118.out 3).trans rfl⟩ (fun hHeld => ?_)
              clear hK K
              refine norm_ (a' := ?_) ?_ ?_
              rotate_left
              ·
               show Act.put _ (some 40) _ = _
               simp only [Act.put, List.setIfInBounds_toArray, List.set_cons_zero, List.set_cons_succ, i64_w, i32_w]
               rfl
              exact norm_ (by first | (simp only [putAll, Act.put, List.setIfInBounds_toArray, List.set_cons_zero, List.set_cons_succ]; done) | (simp only [putAll, Act.put, List.setIfInBounds_toArray, List.set_cons_zero, List.set_cons_succ]; rfl)) (hJ12_13_14_18_19_20_24_26 (v156, v159, v163, v166, v170, v173) _ ⟨hHeld, (by (with_reducible repeat (first | apply Kd.N_alloc | apply Kd.N_drewN | apply Kd.N_drew)); exact Kd.N_mono HO136.out (fun _ hk => ⟨hk.1.1, ⟨hk.1.2.1, ⟨hk.1.2.2.1, ⟨hk.1.2.2.2.1, ⟨hk.1.2.2.2.2.1, ⟨hk.2, hk.1.2.2.2.2.2⟩⟩⟩⟩⟩⟩)), (by (with_reducible repeat (first | apply Kd.V_alloc | apply Kd.V_drewN | apply Kd.V_drew)); exact Kd.V_mono HO145.out (fun _ hk => ⟨hk.1.1, ⟨hk.1.2.1, ⟨hk.1.2.2.1, ⟨hk.1.2.2.2.1, ⟨hk.1.2.2.2.2.1, ⟨hk.2, hk.1.2.2.2.2.2⟩⟩⟩⟩⟩⟩)), (by (with_reducible repeat (first | apply Kd.V_alloc | apply Kd.V_drewN | apply Kd.V_drew)); exact Kd.V_mono HO154.out (fun _ hk => ⟨hk.1.1, ⟨hk.1.2.1, ⟨hk.1.2.2.1, ⟨hk.1.2.2.2.1, ⟨hk.1.2.2.2.2.1, ⟨hk.2, hk.1.2.2.2.2.2⟩⟩⟩⟩⟩⟩)), (q30R HO157.out), (q30R HO160.out), (q30R HO164.out), (q30R HO167.out), (by (with_reducible repeat (first | apply Kd.R_alloc | apply Kd.R_drewN | apply Kd.R_drew)); exact Kd.R_mono HO171.out (fun _ hk => ⟨hk.2, hk.1⟩)), (by (with_reducible repeat (first | apply Kd.R_alloc | apply Kd.R_drewN | apply Kd.R_drew)); exact Kd.R_mono HO174.out (fun _ hk => ⟨hk.1.2, hk.2⟩)), blk_, bel_⟩)
            ·
             skip
             rintro ⟨v156, v159, v163, v166, v170, v173⟩ w53 ⟨hS_, h0_, h1_, h2_, h3_, h4_, h5_, h6_, h7_, h8_, h9_, h10_⟩
             have n0_ : Sd (Kd.N (Kd.slice 28 k28) 51 w53 w.heap.size (fun k_ => some k_ ≠ (v156 : Value).ownBlock ∧ some k_ ≠ (v159 : Value).ownBlock ∧ some k_ ≠ (v163 : Value).ownBlock ∧ some k_ ≠ (v166 : Value).ownBlock ∧ some k_ ≠ (v170 : Value).ownBlock ∧ some k_ ≠ (v173 : Value).ownBlock ∧ k_ ≠ gb118) (.slice Ao36 y134.length co36) y134) := ⟨h0_⟩
             have n1_ : Sd (Kd.V k53 53 w53 w.heap.size (fun k_ => some k_ ≠ (v156 : Value).ownBlock ∧ some k_ ≠ (v159 : Value).ownBlock ∧ some k_ ≠ (v163 : Value).ownBlock ∧ some k_ ≠ (v166 : Value).ownBlock ∧ some k_ ≠ (v170 : Value).ownBlock ∧ some k_ ≠ (v173 : Value).ownBlock ∧ k_ ≠ gb118) v144 t143) := ⟨h1_⟩
             have n2_ : Sd (Kd.V k53 53 w53 w.heap.size (fun k_ => some k_ ≠ (v156 : Value).ownBlock ∧ some k_ ≠ (v159 : Value).ownBlock ∧ some k_ ≠ (v163 : Value).ownBlock ∧ some k_ ≠ (v166 : Value).ownBlock ∧ some k_ ≠ (v170 : Value).ownBlock ∧ some k_ ≠ (v173 : Value).ownBlock ∧ k_ ≠ gb118) v153 t152) := ⟨h2_⟩
             have n3_ : Sd (Kd.R (Kd.int .i64) 3 w53 w.heap.size (fun k_ => some k_ ≠ (v159 : Value).ownBlock ∧ some k_ ≠ (v163 : Value).ownBlock ∧ some k_ ≠ (v166 : Value).ownBlock) v156 t155) := ⟨h3_⟩
             have n4_ : Sd (Kd.R (Kd.int .i64) 3 w53 w.heap.size (fun k_ => some k_ ≠ (v156 : Value).ownBlock ∧ some k_ ≠ (v163 : Value).ownBlock ∧ some k_ ≠ (v166 : Value).ownBlock) v159 y158) := ⟨h4_⟩
             have n5_ : Sd (Kd.R (Kd.int .i64) 3 w53 w.heap.size (fun k_ => some k_ ≠ (v156 : Value).ownBlock ∧ some k_ ≠ (v159 : Value).ownBlock ∧ some k_ ≠ (v166 : Value).ownBlock) v163 t162) := ⟨h5_⟩
             have n6_ : Sd (Kd.R (Kd.int .i64) 3 w53 w.heap.size (fun k_ => some k_ ≠ (v156 : Value).ownBlock ∧ some k_ ≠ (v159 : Value).ownBlock ∧ some k_ ≠ (v163 : Value).ownBlock) v166 y165) := ⟨h6_⟩
             have n7_ : Sd (Kd.R k53 53 w53 w.heap.size (fun k_ => some k_ ≠ (v173 : Value).ownBlock ∧ k_ ≠ gb118) v170 t169) := ⟨h7_⟩
             have n8_ : Sd (Kd.R k53 53 w53 w.heap.size (fun k_ => some k_ ≠ (v170 : Value).ownBlock ∧ k_ ≠ gb118) v173 y172) := ⟨h8_⟩
             have n9_ : Sd (w53.heap[gb118]? = some (.cells #[.int .i64 1, .int .i64 0, .int .i64 0, .string (⟨#[97]⟩ : ByteArray)] 53 (0, 0))) := ⟨h9_⟩
             have n10_ : Sd (Below w.heap.size w w53) := ⟨h10_⟩
             clear HO136
             clear BK118
             clear HB
             clear h0_ h1_ h2_ h3_ h4_ h5_ h6_ h7_ h8_ h9_ h10_
             have HO136 := n0_
             have HO145 := n1_
             have HO154 := n2_
             have HO157 := n3_
             have HO160 := n4_
             have HO164 := n5_
             have HO167 := n6_
             have HO171 := n7_
             have HO174 := n8_
             have BK118 := n9_
             have HB := n10_
             clear n0_ n1_ n2_ n3_ n4_ n5_ n6_ n7_ n8_ n9_ n10_
             have hHeld : w53.cell? ⟨gb118, 0, none⟩ = some (.int .i64 1) ∧ w53.cell? ⟨gb118, 1, none⟩ = some (.int .i64 0) ∧ w53.cell? ⟨gb118, 2, none⟩ = some (.int .i64 0) ∧ w53.cell? ⟨gb118, 3, none⟩ = some (.string (⟨#[97]⟩ : ByteArray)) := hS_
             obtain ⟨Ao54, co54, eo54⟩ := Kd.R_slice HO171.out
             (first | subst eo54 | (injection eo54 with f1_ f2_ f3_; have f4_ := f1_.symm; have f5_ := f3_.symm; clear f1_ f2_ f3_; subst f4_; subst f5_))
             obtain ⟨Ao55, co55, eo55⟩ := Kd.R_slice HO174.out
             (first | subst eo55 | (injection eo55 with f1_ f2_ f3_; have f4_ := f1_.symm; have f5_ := f3_.symm; clear f1_ f2_ f3_; subst f4_; subst f5_))
             refine norm_ (a' := ?_) ?_ ?_
             rotate_left
             ·
              simp only [putAll, Act.put, List.setIfInBounds_toArray, List.set_cons_zero, List.set_cons_succ]
              rfl
             refine one_ (i := 27) (N := some 41) #[true,true,true,true,true,true,true,true,true,true,true,true,true,true,true,true,true,true,true,true,true,true,true,true,true,true,true,true,false,false,false,false,false,false,false,false,false,false,false,false] rfl rfl (one_of HT_.out (by kernel_rfl)) (by decide) (fun K hK => ?_)
             refine goes_ Try.func19 (by kernel_rfl) rfl #[.slice Ao54 t169.length co54, .slice Ao55 y172.length co55] (by rfl) rfl rfl (by (try simp only [List.map_toArray, List.map_cons, List.map_nil]); first | done | rfl | (simp only [List.length_drop, List.length_take]; rfl)) ?_
             with_reducible refine (r24Same.calls k _ _ t169 _ _ y172 true _ ?side1 ?side2 ?side3 ?side4 A12.out).mono ?_
             (case side1 => repeat (first | exact (Kd.R_reads' HO171.out).2.2 | (with_reducible refine Kd.C_alloc ?_ _) | (with_reducible refine Kd.C_drewN ?_ _) | (with_reducible refine Kd.C_drew ?_)))
             (case side2 => exact (Kd.R_reads' HO171.out).2.1)
             (case side3 => repeat (first | exact (Kd.R_reads' HO174.out).2.2 | (with_reducible refine Kd.C_alloc ?_ _) | (with_reducible refine Kd.C_drewN ?_ _) | (with_reducible refine Kd.C_drew ?_)))
             (case side4 => exact (Kd.R_reads' HO174.out).2.1)
             rintro e w' ⟨rfl, ⟨nd, rfl⟩⟩
             refine ⟨_, rfl, ?_⟩
             refine hK.out _ _ ⟨(blk_cell BK118.out 0).trans rfl, (blk_cell BK118.out 1).trans rfl, (blk_cell BK118.out 2).trans rfl, (blk_cell BK118.out 3).trans rfl⟩ (fun hHeld => ?_)
             clear hK K
             refine norm_ (a' := ?_) ?_ ?_
             rotate_left
             ·
              show Act.put _ (some 41) _ = _
              simp only [Act.put, List.setIfInBounds_toArray, List.set_cons_zero, List.set_cons_succ, i64_w, i32_w]
              rfl
             refine pure_ (i := 28) (N := some 42) (v := ?_) (a' := ?_) #[true,true,true,true,true,true,true,true,true,true,true,true,true,true,true,true,true,true,true,true,true,true,true,true,true,true,true,true,true,false,false,false,false,false,false,false,false,false,false,false] rfl rfl (any_of HT_.out (by kernel_rfl)) (fun _ _ _ h => h) (Or.inl ⟨by rfl, ?_⟩) ?_ ?_
             rotate_left
             ·
              intro w'
              go_simp
              with_reducible rfl
             rotate_left
             ·
              simp only [Act.put, List.setIfInBounds_toArray, List.set_cons_zero, List.set_cons_succ, i64_w, i32_w]
              rfl
             refine pure_ (i := 29) (N := some 43) (v := ?_) (a' := ?_) #[true,true,true,true,true,true,true,true,true,true,true,true,true,true,true,true,true,true,true,true,true,true,true,true,true,true,true,true,true,true,false,false,false,false,false,false,false,false,false,false] rfl rfl (any_of HT_.out (by kernel_rfl)) (fun _ _ _ h => h) (Or.inl ⟨by rfl, ?_⟩) ?_ ?_
             rotate_left
             ·
              intro w'
              go_simp
              with_reducible rfl
             rotate_left
             ·
              simp only [Act.put, List.setIfInBounds_toArray, List.set_cons_zero, List.set_cons_succ, i64_w, i32_w]
              rfl
             refine pure_ (i := 30) (N := some 44) (v := ?_) (a' := ?_) #[true,true,true,true,true,true,true,true,true,true,true,true,true,true,true,true,true,true,true,true,true,true,true,true,true,true,true,true,true,true,true,false,false,false,false,false,false,false,false,false] rfl rfl (any_of HT_.out (by kernel_rfl)) (fun _ _ _ h => h) (Or.inl ⟨by rfl, ?_⟩) ?_ ?_
             rotate_left
             ·
              intro w'
              go_simp
              with_reducible rfl
             rotate_left
             ·
              simp only [Act.put, List.setIfInBounds_toArray, List.set_cons_zero, List.set_cons_succ, i64_w, i32_w]
              rfl
             refine take_ (i := 32) (N := some 46) (v := ?_) (a' := ?_) #[true,true,true,true,true,true,true,true,true,true,true,true,true,true,true,true,true,true,true,true,true,true,true,true,true,true,true,true,true,true,true,false,true,false,false,false,false,false,false,false] rfl rfl (take_ofW HT_.out HW_.out (by kernel_rfl)) (fun _ _ _ h => h) (Or.inl ⟨by rfl, ?_⟩) hHeld ?_ ?_
             rotate_left
             ·
              rintro w' ⟨s0, s1, s2, s3⟩
              go_simp
              with_reducible rfl
             rotate_left
             ·
              simp only [Act.put, List.setIfInBounds_toArray, List.set_cons_zero, List.set_cons_succ, i64_w, i32_w]
              rfl
             refine pure_ (i := 35) (N := some 49) (v := ?_) (a' := ?_) #[true,true,true,true,true,true,true,true,true,true,true,true,true,true,true,true,true,true,true,true,true,true,true,true,true,true,true,true,true,true,true,false,true,false,false,true,false,false,false,false] rfl rfl (any_of HT_.out (by kernel_rfl)) (fun _ _ _ h => h) (Or.inl ⟨by rfl, ?_⟩) ?_ ?_
             rotate_left
             ·
              intro w'
              go_simp
              with_reducible rfl
             rotate_left
             ·
              simp only [Act.put, List.setIfInBounds_toArray, List.set_cons_zero, List.set_cons_succ, i64_w, i32_w]
              rfl
             exact norm_ (by first | (simp only [putAll, Act.put, List.setIfInBounds_toArray, List.set_cons_zero, List.set_cons_succ]; done) | (simp only [putAll, Act.put, List.setIfInBounds_toArray, List.set_cons_zero, List.set_cons_succ]; rfl)) (hJ12_13_14_18_19_20_24_26_27 (v156, v159, v163, v166, .slice Ao54 t169.length co54, .slice Ao55 y172.length co55) _ ⟨hHeld, (q30N HO136.out), (q30V HO145.out), (q30V HO154.out), (q30R HO157.out), (q30R HO160.out), (q30R HO164.out), (q30R HO167.out), (q30R HO171.out), (q30R HO174.out), blk_, bel_⟩)
           ·
            skip
            rintro ⟨v156, v159, v163, v166, v170, v173⟩ w55 ⟨hS_, h0_, h1_, h2_, h3_, h4_, h5_, h6_, h7_, h8_, h9_, h10_⟩
            have n0_ : Sd (Kd.N (Kd.slice 28 k28) 51 w55 w.heap.size (fun k_ => some k_ ≠ (v156 : Value).ownBlock ∧ some k_ ≠ (v159 : Value).ownBlock ∧ some k_ ≠ (v163 : Value).ownBlock ∧ some k_ ≠ (v166 : Value).ownBlock ∧ some k_ ≠ (v170 : Value).ownBlock ∧ some k_ ≠ (v173 : Value).ownBlock ∧ k_ ≠ gb118) (.slice Ao36 y134.length co36) y134) := ⟨h0_⟩
            have n1_ : Sd (Kd.V k53 53 w55 w.heap.size (fun k_ => some k_ ≠ (v156 : Value).ownBlock ∧ some k_ ≠ (v159 : Value).ownBlock ∧ some k_ ≠ (v163 : Value).ownBlock ∧ some k_ ≠ (v166 : Value).ownBlock ∧ some k_ ≠ (v170 : Value).ownBlock ∧ some k_ ≠ (v173 : Value).ownBlock ∧ k_ ≠ gb118) v144 t143) := ⟨h1_⟩
            have n2_ : Sd (Kd.V k53 53 w55 w.heap.size (fun k_ => some k_ ≠ (v156 : Value).ownBlock ∧ some k_ ≠ (v159 : Value).ownBlock ∧ some k_ ≠ (v163 : Value).ownBlock ∧ some k_ ≠ (v166 : Value).ownBlock ∧ some k_ ≠ (v170 : Value).ownBlock ∧ some k_ ≠ (v173 : Value).ownBlock ∧ k_ ≠ gb118) v153 t152) := ⟨h2_⟩
            have n3_ : Sd (Kd.R (Kd.int .i64) 3 w55 w.heap.size (fun k_ => some k_ ≠ (v159 : Value).ownBlock ∧ some k_ ≠ (v163 : Value).ownBlock ∧ some k_ ≠ (v166 : Value).ownBlock) v156 t155) := ⟨h3_⟩
            have n4_ : Sd (Kd.R (Kd.int .i64) 3 w55 w.heap.size (fun k_ => some k_ ≠ (v156 : Value).ownBlock ∧ some k_ ≠ (v163 : Value).ownBlock ∧ some k_ ≠ (v166 : Value).ownBlock) v159 y158) := ⟨h4_⟩
            have n5_ : Sd (Kd.R (Kd.int .i64) 3 w55 w.heap.size (fun k_ => some k_ ≠ (v156 : Value).ownBlock ∧ some k_ ≠ (v159 : Value).ownBlock ∧ some k_ ≠ (v166 : Value).ownBlock) v163 t162) := ⟨h5_⟩
            have n6_ : Sd (Kd.R (Kd.int .i64) 3 w55 w.heap.size (fun k_ => some k_ ≠ (v156 : Value).ownBlock ∧ some k_ ≠ (v159 : Value).ownBlock ∧ some k_ ≠ (v163 : Value).ownBlock) v166 y165) := ⟨h6_⟩
            have n7_ : Sd (Kd.R k53 53 w55 w.heap.size (fun k_ => some k_ ≠ (v173 : Value).ownBlock ∧ k_ ≠ gb118) v170 t169) := ⟨h7_⟩
            have n8_ : Sd (Kd.R k53 53 w55 w.heap.size (fun k_ => some k_ ≠ (v170 : Value).ownBlock ∧ k_ ≠ gb118) v173 y172) := ⟨h8_⟩
            have n9_ : Sd (w55.heap[gb118]? = some (.cells #[.int .i64 1, .int .i64 0, .int .i64 0, .string (⟨#[97]⟩ : ByteArray)] 53 (0, 0))) := ⟨h9_⟩
            have n10_ : Sd (Below w.heap.size w w55) := ⟨h10_⟩
            clear HO136
            clear BK118
            clear HB
            clear h0_ h1_ h2_ h3_ h4_ h5_ h6_ h7_ h8_ h9_ h10_
            have HO136 := n0_
            have HO145 := n1_
            have HO154 := n2_
            have HO157 := n3_
            have HO160 := n4_
            have HO164 := n5_
            have HO167 := n6_
            have HO171 := n7_
            have HO174 := n8_
            have BK118 := n9_
            have HB := n10_
            clear n0_ n1_ n2_ n3_ n4_ n5_ n6_ n7_ n8_ n9_ n10_
            have hHeld : w55.cell? ⟨gb118, 0, none⟩ = some (.int .i64 1) ∧ w55.cell? ⟨gb118, 1, none⟩ = some (.int .i64 0) ∧ w55.cell? ⟨gb118, 2, none⟩ = some (.int .i64 0) ∧ w55.cell? ⟨gb118, 3, none⟩ = some (.string (⟨#[97]⟩ : ByteArray)) := hS_
            refine norm_ (a' := ?_) ?_ ?_
            rotate_left
            ·
             simp only [putAll, Act.put, List.setIfInBounds_toArray, List.set_cons_zero, List.set_cons_succ]
             rfl
            refine two_ (i := 31) (j := 33) (Ni := some 45) (Nj := some 47) #[true,true,true,true,true,true,true,true,true,true,true,true,true,true,true,true,true,true,true,true,true,true,true,true,true,true,true,true,true,true,true,true,true,false,false,true,false,false,false,false] #[true,true,true,true,true,true,true,true,true,true,true,true,true,true,true,true,true,true,true,true,true,true,true,true,true,true,true,true,true,true,true,false,true,true,false,true,false,false,false,false] rfl rfl rfl rfl (two_of HT_.out (by kernel_rfl)) (by decide) (by decide) (fun K hK => ?_) (fun K hK => ?_)
            ·
             skip
             refine goes_ Try.func23 (by kernel_rfl) rfl #[.slice Ao36 y134.length co36, .int .i64 0] (by rfl) rfl rfl (by (try simp only [List.map_toArray, List.map_cons, List.map_nil]); first | done | rfl | (simp only [List.length_drop, List.length_take]; rfl)) ?_
             with_reducible refine (trace_Cycles.calls _ _ y134 0 t176 _ ?side1 ?side2 A14.out).mono ?_
             (case side1 => repeat (first | exact (Kd.N_reads' HO136.out).2.2 | (with_reducible refine Kd.C_alloc ?_ _) | (with_reducible refine Kd.C_drewN ?_ _) | (with_reducible refine Kd.C_drew ?_)))
             (case side2 => exact (Kd.N_reads' HO136.out).2.1)
             rintro e w56 ⟨v177, rfl, ho0, hb⟩
             refine ⟨_, rfl, ?_⟩
             have n0_ := Sd.mk (Kd.N_elder' (q30N HO136.out) (by first | exact Kd.N_base ho0 | exact Kd.S_base ho0) hb)
             have n1_ := Sd.mk (Kd.V_elder' (q30V HO145.out) (by first | exact Kd.N_base ho0 | exact Kd.S_base ho0) hb)
             have n2_ := Sd.mk (Kd.V_elder' (q30V HO154.out) (by first | exact Kd.N_base ho0 | exact Kd.S_base ho0) hb)
             have n3_ := Sd.mk (Kd.R_below (q30R HO157.out) hb)
             have n4_ := Sd.mk (Kd.R_below (q30R HO160.out) hb)
             have n5_ := Sd.mk (Kd.R_below (q30R HO164.out) hb)
             have n6_ := Sd.mk (Kd.R_below (q30R HO167.out) hb)
             have n7_ := Sd.mk (Kd.R_below (q30R HO171.out) hb)
             have n8_ := Sd.mk (Kd.R_below (q30R HO174.out) hb)
             have n9_ := Sd.mk (Kd.N_lower (Kd.N_mono (ok' := fun k_ => some k_ ≠ (.slice Ao36 y134.length co36 : Value).ownBlock ∧ some k_ ≠ (v156 : Value).ownBlock ∧ some k_ ≠ (v159 : Value).ownBlock ∧ some k_ ≠ (v163 : Value).ownBlock ∧ some k_ ≠ (v166 : Value).ownBlock ∧ some k_ ≠ (v170 : Value).ownBlock ∧ some k_ ≠ (v173 : Value).ownBlock ∧ k_ ≠ gb118) (Kd.S_N (Kd.S_bound ho0)) (fun k_ hk_ => ⟨(Kd.fresh' (Kd.N_lt (q30N HO136.out)) k_ hk_.2.1), (Kd.fresh' (Kd.R_lt (q30R HO157.out)) k_ hk_.2.1), (Kd.fresh' (Kd.R_lt (q30R HO160.out)) k_ hk_.2.1), (Kd.fresh' (Kd.R_lt (q30R HO164.out)) k_ hk_.2.1), (Kd.fresh' (Kd.R_lt (q30R HO167.out)) k_ hk_.2.1), (Kd.fresh' (Kd.R_lt (q30R HO171.out)) k_ hk_.2.1), (Kd.fresh' (Kd.R_lt (q30R HO174.out)) k_ hk_.2.1), (Kd.freshB (g := gb118) (o := .cells #[.int .i64 1, .int .i64 0, .int .i64 0, .string (⟨#[97]⟩ : ByteArray)] 53 (0, 0)) blk_ k_ hk_.2.1)⟩)) (below_size bel_))
             have n10_ := Sd.mk (blk_below (g := gb118) (o := .cells #[.int .i64 1, .int .i64 0, .int .i64 0, .string (⟨#[97]⟩ : ByteArray)] 53 (0, 0)) blk_ hb)
             have n11_ := Sd.mk (below_step bel_ hb)
             clear HO136
             clear HO145
             clear HO154
             clear HO157
             clear HO160
             clear HO164
             clear HO167
             clear HO171
             clear HO174
             clear BK118
             clear HB
             have HO136 := n0_
             have HO145 := n1_
             have HO154 := n2_
             have HO157 := n3_
             have HO160 := n4_
             have HO164 := n5_
             have HO167 := n6_
             have HO171 := n7_
             have HO174 := n8_
             have HO178 := n9_
             have BK118 := n10_
             have HB := n11_
             clear n0_ n1_ n2_ n3_ n4_ n5_ n6_ n7_ n8_ n9_ n10_ n11_
             (try clear hb)
             (try clear hb2)
             (try clear hk)
             (try clear hi)
             (try clear ho0)
             refine hK.out _ _ ⟨(blk_cell BK118.out 0).trans rfl, (blk_cell BK118.out 1).trans rfl, (blk_cell BK118.out 2).trans rfl, (blk_cell BK118.out 3).trans rfl⟩ (fun hHeld => ?_)
             clear hK K
             refine norm_ (a' := ?_) ?_ ?_
             rotate_left
             ·
              show Act.put _ (some 45) _ = _
              simp only [Act.put, List.setIfInBounds_toArray, List.set_cons_zero, List.set_cons_succ, i64_w, i32_w]
              rfl
             exact norm_ (by first | (simp only [putAll, Act.put, List.setIfInBounds_toArray, List.set_cons_zero, List.set_cons_succ]; done) | (simp only [putAll, Act.put, List.setIfInBounds_toArray, List.set_cons_zero, List.set_cons_succ]; rfl)) (hJ12_13_14_18_19_20_24_26_27_31 (v156, v159, v163, v166, v170, v173, v177) _ ⟨hHeld, (by (with_reducible repeat (first | apply Kd.N_alloc | apply Kd.N_drewN | apply Kd.N_drew)); exact Kd.N_mono HO136.out (fun _ hk => ⟨hk.1.1, ⟨hk.1.2.1, ⟨hk.1.2.2.1, ⟨hk.1.2.2.2.1, ⟨hk.1.2.2.2.2.1, ⟨hk.1.2.2.2.2.2.1, ⟨hk.2, hk.1.2.2.2.2.2.2⟩⟩⟩⟩⟩⟩⟩)), (by (with_reducible repeat (first | apply Kd.V_alloc | apply Kd.V_drewN | apply Kd.V_drew)); exact Kd.V_mono HO145.out (fun _ hk => ⟨hk.1.1, ⟨hk.1.2.1, ⟨hk.1.2.2.1, ⟨hk.1.2.2.2.1, ⟨hk.1.2.2.2.2.1, ⟨hk.1.2.2.2.2.2.1, ⟨hk.2, hk.1.2.2.2.2.2.2⟩⟩⟩⟩⟩⟩⟩)), (by (with_reducible repeat (first | apply Kd.V_alloc | apply Kd.V_drewN | apply Kd.V_drew)); exact Kd.V_mono HO154.out (fun _ hk => ⟨hk.1.1, ⟨hk.1.2.1, ⟨hk.1.2.2.1, ⟨hk.1.2.2.2.1, ⟨hk.1.2.2.2.2.1, ⟨hk.1.2.2.2.2.2.1, ⟨hk.2, hk.1.2.2.2.2.2.2⟩⟩⟩⟩⟩⟩⟩)), (q30R HO157.out), (q30R HO160.out), (q30R HO164.out), (q30R HO167.out), (q30R HO171.out), (q30R HO174.out), (q30N HO178.out), blk_, bel_⟩)
            ·
             skip
             refine Kd.R_lit_step k53 _ 53 ?hg (N := 47) ?hd (xs := ([(⟨1, 0, 0, (⟨#[97]⟩ : ByteArray)⟩ : S53)] : List (S53))) (inner := [.int .i64 1, .int .i64 0, .int .i64 0, .string (⟨#[97]⟩ : ByteArray)]) (ok := fun _ => True) (okp := fun _ => True) ?hr ?hp (fun _ hk => hk) trivial (Below.refl _ _) (Nat.le_refl _) (by simp) ?_; (case hd => rfl); (case hg => rfl); (case hr => first | (go_simp; done) | (go_simp; rfl)); (case hp => exact (Reps.c4 (show Kd.M k53 _ _ _ (⟨1, 0, 0, (⟨#[97]⟩ : ByteArray)⟩ : S53) [.int .i64 1, .int .i64 0, .int .i64 0, .string (⟨#[97]⟩ : ByteArray)] from (k53_mkM _ _ _ (⟨1, 0, 0, (⟨#[97]⟩ : ByteArray)⟩ : S53) )) (Reps.none _ _)))
             intro v180 w56 ho57 hb hg_ hnew_
             clear hg_ hnew_
             (first | rw [← Ny179.out] at ho57 | (simp only [Int.reduceToNat] at ho57; rw [← Ny179.out] at ho57))
             have n0_ := Sd.mk (Kd.N_elder' (q30N HO136.out) (Kd.R_base ho57) hb)
             have n1_ := Sd.mk (Kd.V_elder' (q30V HO145.out) (Kd.R_base ho57) hb)
             have n2_ := Sd.mk (Kd.V_elder' (q30V HO154.out) (Kd.R_base ho57) hb)
             have n3_ := Sd.mk (Kd.R_below (q30R HO157.out) hb)
             have n4_ := Sd.mk (Kd.R_below (q30R HO160.out) hb)
             have n5_ := Sd.mk (Kd.R_below (q30R HO164.out) hb)
             have n6_ := Sd.mk (Kd.R_below (q30R HO167.out) hb)
             have n7_ := Sd.mk (Kd.R_elder' (q30R HO171.out) (Kd.R_base ho57) hb)
             have n8_ := Sd.mk (Kd.R_elder' (q30R HO174.out) (Kd.R_base ho57) hb)
             have n9_ := Sd.mk (Kd.R_lower (Kd.R_newB (Kd.R_new' (Kd.R_new' ho57 (Kd.R_lt (q30R HO171.out))) (Kd.R_lt (q30R HO174.out))) (g := gb118) (o := .cells #[.int .i64 1, .int .i64 0, .int .i64 0, .string (⟨#[97]⟩ : ByteArray)] 53 (0, 0)) blk_) (below_size bel_))
             have n10_ := Sd.mk (blk_below (g := gb118) (o := .cells #[.int .i64 1, .int .i64 0, .int .i64 0, .string (⟨#[97]⟩ : ByteArray)] 53 (0, 0)) blk_ hb)
             have n11_ := Sd.mk (below_step bel_ hb)
             clear HO136
             clear HO145
             clear HO154
             clear HO157
             clear HO160
             clear HO164
             clear HO167
             clear HO171
             clear HO174
             clear BK118
             clear HB
             have HO136 := n0_
             have HO145 := n1_
             have HO154 := n2_
             have HO157 := n3_
             have HO160 := n4_
             have HO164 := n5_
             have HO167 := n6_
             have HO171 := n7_
             have HO174 := n8_
             have HO181 := n9_
             have BK118 := n10_
             have HB := n11_
             clear n0_ n1_ n2_ n3_ n4_ n5_ n6_ n7_ n8_ n9_ n10_ n11_
             clear hb ho57
             obtain ⟨Ao58, co58, eo58⟩ := Kd.R_slice HO181.out
             (first | subst eo58 | (injection eo58 with f1_ f2_ f3_; have f4_ := f1_.symm; have f5_ := f3_.symm; clear f1_ f2_ f3_; subst f4_; subst f5_))
             refine hK.out _ _ ⟨(blk_cell BK118.out 0).trans rfl, (blk_cell BK118.out 1).trans rfl, (blk_cell BK118.out 2).trans rfl, (blk_cell BK118.out 3).trans rfl⟩ (fun hHeld => ?_)
             clear hK K
             refine norm_ (a' := ?_) ?_ ?_
             rotate_left
             ·
              show Act.put _ (some 47) _ = _
              simp only [Act.put, List.setIfInBounds_toArray, List.set_cons_zero, List.set_cons_succ, i64_w, i32_w]
              rfl
             refine pure_ (i := 34) (N := some 48) (v := ?_) (a' := ?_) #[true,true,true,true,true,true,true,true,true,true,true,true,true,true,true,true,true,true,true,true,true,true,true,true,true,true,true,true,true,true,true,false,true,true,true,true,false,false,false,false] rfl rfl (any_of HT_.out (by kernel_rfl)) (fun _ _ _ h => h) (Or.inl ⟨by rfl, ?_⟩) ?_ ?_
             rotate_left
             ·
              intro w'
              go_simp
              with_reducible rfl
             rotate_left
             ·
              simp only [Act.put, List.setIfInBounds_toArray, List.set_cons_zero, List.set_cons_succ, i64_w, i32_w]
              rfl
             exact norm_ (by first | (simp only [putAll, Act.put, List.setIfInBounds_toArray, List.set_cons_zero, List.set_cons_succ]; done) | (simp only [putAll, Act.put, List.setIfInBounds_toArray, List.set_cons_zero, List.set_cons_succ]; rfl)) (hJ12_13_14_18_19_20_24_26_27_33 (v156, v159, v163, v166, v170, v173, .slice Ao58 y179.length co58) _ ⟨hHeld, (by (with_reducible repeat (first | apply Kd.N_alloc | apply Kd.N_drewN | apply Kd.N_drew)); exact Kd.N_mono HO136.out (fun _ hk => ⟨hk.1.1, ⟨hk.1.2.1, ⟨hk.1.2.2.1, ⟨hk.1.2.2.2.1, ⟨hk.1.2.2.2.2.1, ⟨hk.1.2.2.2.2.2.1, ⟨hk.2, hk.1.2.2.2.2.2.2⟩⟩⟩⟩⟩⟩⟩)), (by (with_reducible repeat (first | apply Kd.V_alloc | apply Kd.V_drewN | apply Kd.V_drew)); exact Kd.V_mono HO145.out (fun _ hk => ⟨hk.1.1, ⟨hk.1.2.1, ⟨hk.1.2.2.1, ⟨hk.1.2.2.2.1, ⟨hk.1.2.2.2.2.1, ⟨hk.1.2.2.2.2.2.1, ⟨hk.2, hk.1.2.2.2.2.2.2⟩⟩⟩⟩⟩⟩⟩)), (by (with_reducible repeat (first | apply Kd.V_alloc | apply Kd.V_drewN | apply Kd.V_drew)); exact Kd.V_mono HO154.out (fun _ hk => ⟨hk.1.1, ⟨hk.1.2.1, ⟨hk.1.2.2.1, ⟨hk.1.2.2.2.1, ⟨hk.1.2.2.2.2.1, ⟨hk.1.2.2.2.2.2.1, ⟨hk.2, hk.1.2.2.2.2.2.2⟩⟩⟩⟩⟩⟩⟩)), (q30R HO157.out), (q30R HO160.out), (q30R HO164.out), (q30R HO167.out), (by (with_reducible repeat (first | apply Kd.R_alloc | apply Kd.R_drewN | apply Kd.R_drew)); exact Kd.R_mono HO171.out (fun _ hk => ⟨hk.1.1, ⟨hk.2, hk.1.2⟩⟩)), (by (with_reducible repeat (first | apply Kd.R_alloc | apply Kd.R_drewN | apply Kd.R_drew)); exact Kd.R_mono HO174.out (fun _ hk => ⟨hk.1.1, ⟨hk.2, hk.1.2⟩⟩)), (by (with_reducible repeat (first | apply Kd.R_alloc | apply Kd.R_drewN | apply Kd.R_drew)); exact Kd.R_mono HO181.out (fun _ hk => ⟨hk.1.1.2, ⟨hk.1.2, hk.2⟩⟩)), blk_, bel_⟩)
          ·
           skip
           rintro ⟨v156, v159, v163, v166, v170, v173, v180⟩ w58 ⟨hS_, h0_, h1_, h2_, h3_, h4_, h5_, h6_, h7_, h8_, h9_, h10_, h11_⟩
           have n0_ : Sd (Kd.N (Kd.slice 28 k28) 51 w58 w.heap.size (fun k_ => some k_ ≠ (v156 : Value).ownBlock ∧ some k_ ≠ (v159 : Value).ownBlock ∧ some k_ ≠ (v163 : Value).ownBlock ∧ some k_ ≠ (v166 : Value).ownBlock ∧ some k_ ≠ (v170 : Value).ownBlock ∧ some k_ ≠ (v173 : Value).ownBlock ∧ some k_ ≠ (v180 : Value).ownBlock ∧ k_ ≠ gb118) (.slice Ao36 y134.length co36) y134) := ⟨h0_⟩
           have n1_ : Sd (Kd.V k53 53 w58 w.heap.size (fun k_ => some k_ ≠ (v156 : Value).ownBlock ∧ some k_ ≠ (v159 : Value).ownBlock ∧ some k_ ≠ (v163 : Value).ownBlock ∧ some k_ ≠ (v166 : Value).ownBlock ∧ some k_ ≠ (v170 : Value).ownBlock ∧ some k_ ≠ (v173 : Value).ownBlock ∧ some k_ ≠ (v180 : Value).ownBlock ∧ k_ ≠ gb118) v144 t143) := ⟨h1_⟩
           have n2_ : Sd (Kd.V k53 53 w58 w.heap.size (fun k_ => some k_ ≠ (v156 : Value).ownBlock ∧ some k_ ≠ (v159 : Value).ownBlock ∧ some k_ ≠ (v163 : Value).ownBlock ∧ some k_ ≠ (v166 : Value).ownBlock ∧ some k_ ≠ (v170 : Value).ownBlock ∧ some k_ ≠ (v173 : Value).ownBlock ∧ some k_ ≠ (v180 : Value).ownBlock ∧ k_ ≠ gb118) v153 t152) := ⟨h2_⟩
           have n3_ : Sd (Kd.R (Kd.int .i64) 3 w58 w.heap.size (fun k_ => some k_ ≠ (v159 : Value).ownBlock ∧ some k_ ≠ (v163 : Value).ownBlock ∧ some k_ ≠ (v166 : Value).ownBlock) v156 t155) := ⟨h3_⟩
           have n4_ : Sd (Kd.R (Kd.int .i64) 3 w58 w.heap.size (fun k_ => some k_ ≠ (v156 : Value).ownBlock ∧ some k_ ≠ (v163 : Value).ownBlock ∧ some k_ ≠ (v166 : Value).ownBlock) v159 y158) := ⟨h4_⟩
           have n5_ : Sd (Kd.R (Kd.int .i64) 3 w58 w.heap.size (fun k_ => some k_ ≠ (v156 : Value).ownBlock ∧ some k_ ≠ (v159 : Value).ownBlock ∧ some k_ ≠ (v166 : Value).ownBlock) v163 t162) := ⟨h5_⟩
           have n6_ : Sd (Kd.R (Kd.int .i64) 3 w58 w.heap.size (fun k_ => some k_ ≠ (v156 : Value).ownBlock ∧ some k_ ≠ (v159 : Value).ownBlock ∧ some k_ ≠ (v163 : Value).ownBlock) v166 y165) := ⟨h6_⟩
           have n7_ : Sd (Kd.R k53 53 w58 w.heap.size (fun k_ => some k_ ≠ (v173 : Value).ownBlock ∧ some k_ ≠ (v180 : Value).ownBlock ∧ k_ ≠ gb118) v170 t169) := ⟨h7_⟩
           have n8_ : Sd (Kd.R k53 53 w58 w.heap.size (fun k_ => some k_ ≠ (v170 : Value).ownBlock ∧ some k_ ≠ (v180 : Value).ownBlock ∧ k_ ≠ gb118) v173 y172) := ⟨h8_⟩
           have n9_ : Sd (Kd.R k53 53 w58 w.heap.size (fun k_ => some k_ ≠ (v170 : Value).ownBlock ∧ some k_ ≠ (v173 : Value).ownBlock ∧ k_ ≠ gb118) v180 y179) := ⟨h9_⟩
           have n10_ : Sd (w58.heap[gb118]? = some (.cells #[.int .i64 1, .int .i64 0, .int .i64 0, .string (⟨#[97]⟩ : ByteArray)] 53 (0, 0))) := ⟨h10_⟩
           have n11_ : Sd (Below w.heap.size w w58) := ⟨h11_⟩
           clear HO136
           clear BK118
           clear HB
           clear h0_ h1_ h2_ h3_ h4_ h5_ h6_ h7_ h8_ h9_ h10_ h11_
           have HO136 := n0_
           have HO145 := n1_
           have HO154 := n2_
           have HO157 := n3_
           have HO160 := n4_
           have HO164 := n5_
           have HO167 := n6_
           have HO171 := n7_
           have HO174 := n8_
           have HO181 := n9_
           have BK118 := n10_
           have HB := n11_
           clear n0_ n1_ n2_ n3_ n4_ n5_ n6_ n7_ n8_ n9_ n10_ n11_
           have hHeld : w58.cell? ⟨gb118, 0, none⟩ = some (.int .i64 1) ∧ w58.cell? ⟨gb118, 1, none⟩ = some (.int .i64 0) ∧ w58.cell? ⟨gb118, 2, none⟩ = some (.int .i64 0) ∧ w58.cell? ⟨gb118, 3, none⟩ = some (.string (⟨#[97]⟩ : ByteArray)) := hS_
           obtain ⟨Ao59, co59, eo59⟩ := Kd.R_slice HO181.out
           (first | subst eo59 | (injection eo59 with f1_ f2_ f3_; have f4_ := f1_.symm; have f5_ := f3_.symm; clear f1_ f2_ f3_; subst f4_; subst f5_))
           refine norm_ (a' := ?_) ?_ ?_
           rotate_left
           ·
            simp only [putAll, Act.put, List.setIfInBounds_toArray, List.set_cons_zero, List.set_cons_succ]
            rfl
           refine two_ (i := 31) (j := 36) (Ni := some 45) (Nj := some 50) #[true,true,true,true,true,true,true,true,true,true,true,true,true,true,true,true,true,true,true,true,true,true,true,true,true,true,true,true,true,true,true,true,true,true,true,true,false,false,false,false] #[true,true,true,true,true,true,true,true,true,true,true,true,true,true,true,true,true,true,true,true,true,true,true,true,true,true,true,true,true,true,true,false,true,true,true,true,true,false,false,false] rfl rfl rfl rfl (two_of HT_.out (by kernel_rfl)) (by decide) (by decide) (fun K hK => ?_) (fun K hK => ?_)
           ·
            skip
            refine goes_ Try.func23 (by kernel_rfl) rfl #[.slice Ao36 y134.length co36, .int .i64 0] (by rfl) rfl rfl (by (try simp only [List.map_toArray, List.map_cons, List.map_nil]); first | done | rfl | (simp only [List.length_drop, List.length_take]; rfl)) ?_
            with_reducible refine (trace_Cycles.calls _ _ y134 0 t176 _ ?side1 ?side2 A14.out).mono ?_
            (case side1 => repeat (first | exact (Kd.N_reads' HO136.out).2.2 | (with_reducible refine Kd.C_alloc ?_ _) | (with_reducible refine Kd.C_drewN ?_ _) | (with_reducible refine Kd.C_drew ?_)))
            (case side2 => exact (Kd.N_reads' HO136.out).2.1)
            rintro e w60 ⟨v177, rfl, ho0, hb⟩
            refine ⟨_, rfl, ?_⟩
            have n0_ := Sd.mk (Kd.N_elder' (q30N HO136.out) (by first | exact Kd.N_base ho0 | exact Kd.S_base ho0) hb)
            have n1_ := Sd.mk (Kd.V_elder' (q30V HO145.out) (by first | exact Kd.N_base ho0 | exact Kd.S_base ho0) hb)
            have n2_ := Sd.mk (Kd.V_elder' (q30V HO154.out) (by first | exact Kd.N_base ho0 | exact Kd.S_base ho0) hb)
            have n3_ := Sd.mk (Kd.R_below (q30R HO157.out) hb)
            have n4_ := Sd.mk (Kd.R_below (q30R HO160.out) hb)
            have n5_ := Sd.mk (Kd.R_below (q30R HO164.out) hb)
            have n6_ := Sd.mk (Kd.R_below (q30R HO167.out) hb)
            have n7_ := Sd.mk (Kd.R_below (q30R HO171.out) hb)
            have n8_ := Sd.mk (Kd.R_below (q30R HO174.out) hb)
            have n9_ := Sd.mk (Kd.R_below (q30R HO181.out) hb)
            have n10_ := Sd.mk (Kd.N_lower (Kd.N_mono (ok' := fun k_ => some k_ ≠ (.slice Ao36 y134.length co36 : Value).ownBlock ∧ some k_ ≠ (v156 : Value).ownBlock ∧ some k_ ≠ (v159 : Value).ownBlock ∧ some k_ ≠ (v163 : Value).ownBlock ∧ some k_ ≠ (v166 : Value).ownBlock ∧ some k_ ≠ (v170 : Value).ownBlock ∧ some k_ ≠ (v173 : Value).ownBlock ∧ some k_ ≠ (.slice Ao59 y179.length co59 : Value).ownBlock ∧ k_ ≠ gb118) (Kd.S_N (Kd.S_bound ho0)) (fun k_ hk_ => ⟨(Kd.fresh' (Kd.N_lt (q30N HO136.out)) k_ hk_.2.1), (Kd.fresh' (Kd.R_lt (q30R HO157.out)) k_ hk_.2.1), (Kd.fresh' (Kd.R_lt (q30R HO160.out)) k_ hk_.2.1), (Kd.fresh' (Kd.R_lt (q30R HO164.out)) k_ hk_.2.1), (Kd.fresh' (Kd.R_lt (q30R HO167.out)) k_ hk_.2.1), (Kd.fresh' (Kd.R_lt (q30R HO171.out)) k_ hk_.2.1), (Kd.fresh' (Kd.R_lt (q30R HO174.out)) k_ hk_.2.1), (Kd.fresh' (Kd.R_lt (q30R HO181.out)) k_ hk_.2.1), (Kd.freshB (g := gb118) (o := .cells #[.int .i64 1, .int .i64 0, .int .i64 0, .string (⟨#[97]⟩ : ByteArray)] 53 (0, 0)) blk_ k_ hk_.2.1)⟩)) (below_size bel_))
            have n11_ := Sd.mk (blk_below (g := gb118) (o := .cells #[.int .i64 1, .int .i64 0, .int .i64 0, .string (⟨#[97]⟩ : ByteArray)] 53 (0, 0)) blk_ hb)
            have n12_ := Sd.mk (below_step bel_ hb)
            clear HO136
            clear HO145
            clear HO154
            clear HO157
            clear HO160
            clear HO164
            clear HO167
            clear HO171
            clear HO174
            clear HO181
            clear BK118
            clear HB
            have HO136 := n0_
            have HO145 := n1_
            have HO154 := n2_
            have HO157 := n3_
            have HO160 := n4_
            have HO164 := n5_
            have HO167 := n6_
            have HO171 := n7_
            have HO174 := n8_
            have HO181 := n9_
            have HO178 := n10_
            have BK118 := n11_
            have HB := n12_
            clear n0_ n1_ n2_ n3_ n4_ n5_ n6_ n7_ n8_ n9_ n10_ n11_ n12_
            (try clear hb)
            (try clear hb2)
            (try clear hk)
            (try clear hi)
            (try clear ho0)
            refine hK.out _ _ ⟨(blk_cell BK118.out 0).trans rfl, (blk_cell BK118.out 1).trans rfl, (blk_cell BK118.out 2).trans rfl, (blk_cell BK118.out 3).trans rfl⟩ (fun hHeld => ?_)
            clear hK K
            refine norm_ (a' := ?_) ?_ ?_
            rotate_left
            ·
             show Act.put _ (some 45) _ = _
             simp only [Act.put, List.setIfInBounds_toArray, List.set_cons_zero, List.set_cons_succ, i64_w, i32_w]
             rfl
            exact norm_ (by first | (simp only [putAll, Act.put, List.setIfInBounds_toArray, List.set_cons_zero, List.set_cons_succ]; done) | (simp only [putAll, Act.put, List.setIfInBounds_toArray, List.set_cons_zero, List.set_cons_succ]; rfl)) (hJ12_13_14_18_19_20_24_26_27_31_33 (v156, v159, v163, v166, v170, v173, v177, .slice Ao59 y179.length co59) _ ⟨hHeld, (by (with_reducible repeat (first | apply Kd.N_alloc | apply Kd.N_drewN | apply Kd.N_drew)); exact Kd.N_mono HO136.out (fun _ hk => ⟨hk.1.1, ⟨hk.1.2.1, ⟨hk.1.2.2.1, ⟨hk.1.2.2.2.1, ⟨hk.1.2.2.2.2.1, ⟨hk.1.2.2.2.2.2.1, ⟨hk.2, ⟨hk.1.2.2.2.2.2.2.1, hk.1.2.2.2.2.2.2.2⟩⟩⟩⟩⟩⟩⟩⟩)), (by (with_reducible repeat (first | apply Kd.V_alloc | apply Kd.V_drewN | apply Kd.V_drew)); exact Kd.V_mono HO145.out (fun _ hk => ⟨hk.1.1, ⟨hk.1.2.1, ⟨hk.1.2.2.1, ⟨hk.1.2.2.2.1, ⟨hk.1.2.2.2.2.1, ⟨hk.1.2.2.2.2.2.1, ⟨hk.2, ⟨hk.1.2.2.2.2.2.2.1, hk.1.2.2.2.2.2.2.2⟩⟩⟩⟩⟩⟩⟩⟩)), (by (with_reducible repeat (first | apply Kd.V_alloc | apply Kd.V_drewN | apply Kd.V_drew)); exact Kd.V_mono HO154.out (fun _ hk => ⟨hk.1.1, ⟨hk.1.2.1, ⟨hk.1.2.2.1, ⟨hk.1.2.2.2.1, ⟨hk.1.2.2.2.2.1, ⟨hk.1.2.2.2.2.2.1, ⟨hk.2, ⟨hk.1.2.2.2.2.2.2.1, hk.1.2.2.2.2.2.2.2⟩⟩⟩⟩⟩⟩⟩⟩)), (q30R HO157.out), (q30R HO160.out), (q30R HO164.out), (q30R HO167.out), (q30R HO171.out), (q30R HO174.out), (q30N HO178.out), (q30R HO181.out), blk_, bel_⟩)
           ·
            skip
            refine Kd.N_lit_step k40 _ 40 ?hg (N' := 50) ?hd (xs := ([(⟨0, 7, (⟨#[]⟩ : ByteArray), false, y179⟩ : S40), (⟨2, 8, (⟨#[]⟩ : ByteArray), false, ([] : List (S53))⟩ : S40)] : List (S40))) (inner := [.int .i64 0, .int .i64 7, .string (⟨#[]⟩ : ByteArray), .bool false, .slice Ao59 y179.length co59, .int .i64 2, .int .i64 8, .string (⟨#[]⟩ : ByteArray), .bool false, .slice none 0 0]) (ok := (fun k_ => some k_ ≠ (.slice Ao36 y134.length co36 : Value).ownBlock ∧ some k_ ≠ (v156 : Value).ownBlock ∧ some k_ ≠ (v159 : Value).ownBlock ∧ some k_ ≠ (v163 : Value).ownBlock ∧ some k_ ≠ (v166 : Value).ownBlock ∧ some k_ ≠ (v170 : Value).ownBlock ∧ some k_ ≠ (v173 : Value).ownBlock ∧ k_ ≠ gb118)) (okp := (fun k_ => some k_ ≠ (.slice Ao36 y134.length co36 : Value).ownBlock ∧ some k_ ≠ (v156 : Value).ownBlock ∧ some k_ ≠ (v159 : Value).ownBlock ∧ some k_ ≠ (v163 : Value).ownBlock ∧ some k_ ≠ (v166 : Value).ownBlock ∧ some k_ ≠ (v170 : Value).ownBlock ∧ some k_ ≠ (v173 : Value).ownBlock ∧ k_ ≠ gb118)) ?hr ?hp (fun _ hk => hk) ((show ∀ k_, w58.heap.size ≤ k_ → (fun k_ => some k_ ≠ (.slice Ao36 y134.length co36 : Value).ownBlock ∧ some k_ ≠ (v156 : Value).ownBlock ∧ some k_ ≠ (v159 : Value).ownBlock ∧ some k_ ≠ (v163 : Value).ownBlock ∧ some k_ ≠ (v166 : Value).ownBlock ∧ some k_ ≠ (v170 : Value).ownBlock ∧ some k_ ≠ (v173 : Value).ownBlock ∧ k_ ≠ gb118) k_ from fun k_ hk => ⟨Kd.fresh' (Kd.N_lt (q30N HO136.out)) k_ hk, Kd.fresh' (Kd.R_lt (q30R HO157.out)) k_ hk, Kd.fresh' (Kd.R_lt (q30R HO160.out)) k_ hk, Kd.fresh' (Kd.R_lt (q30R HO164.out)) k_ hk, Kd.fresh' (Kd.R_lt (q30R HO167.out)) k_ hk, Kd.fresh' (Kd.R_lt (q30R HO171.out)) k_ hk, Kd.fresh' (Kd.R_lt (q30R HO174.out)) k_ hk, Kd.freshB (g := gb118) (o := .cells #[.int .i64 1, .int .i64 0, .int .i64 0, .string (⟨#[97]⟩ : ByteArray)] 53 (0, 0)) blk_ k_ hk⟩) _ (Nat.le_refl _)) (Below.refl _ _) (Nat.le_refl _) (by simp) ?_; (case hd => rfl); (case hg => rfl); (case hr => first | (go_simp; done) | (go_simp; rfl)); (case hp => exact (Reps.c5 (show Kd.FK k40 _ _ (⟨0, 7, (⟨#[]⟩ : ByteArray), false, y179⟩ : S40) [.int .i64 0, .int .i64 7, .string (⟨#[]⟩ : ByteArray), .bool false, .slice Ao59 y179.length co59] from (k40_mkF _ _ (⟨0, 7, (⟨#[]⟩ : ByteArray), false, y179⟩ : S40) (Kd.R_reads' (Kd.R_mono (ok' := (fun k_ => some k_ ≠ (.slice Ao36 y134.length co36 : Value).ownBlock ∧ some k_ ≠ (v156 : Value).ownBlock ∧ some k_ ≠ (v159 : Value).ownBlock ∧ some k_ ≠ (v163 : Value).ownBlock ∧ some k_ ≠ (v166 : Value).ownBlock ∧ some k_ ≠ (v170 : Value).ownBlock ∧ some k_ ≠ (v173 : Value).ownBlock ∧ k_ ≠ gb118)) (Kd.R_apart' (Kd.R_apart' (Kd.R_apart' (Kd.R_apart' (Kd.R_apart' (HO181.out) (Kd.N_typed HO136.out) (by decide)) (Kd.R_typed HO157.out) (by decide)) (Kd.R_typed HO160.out) (by decide)) (Kd.R_typed HO164.out) (by decide)) (Kd.R_typed HO167.out) (by decide)) (fun k_ hk => ⟨hk.1.1.1.1.2, ⟨hk.1.1.1.2, ⟨hk.1.1.2, ⟨hk.1.2, ⟨hk.2, ⟨hk.1.1.1.1.1.1, ⟨hk.1.1.1.1.1.2.1, hk.1.1.1.1.1.2.2⟩⟩⟩⟩⟩⟩⟩))).2.1 (Kd.R_F (Kd.R_mono (ok' := (fun k_ => some k_ ≠ (.slice Ao36 y134.length co36 : Value).ownBlock ∧ some k_ ≠ (v156 : Value).ownBlock ∧ some k_ ≠ (v159 : Value).ownBlock ∧ some k_ ≠ (v163 : Value).ownBlock ∧ some k_ ≠ (v166 : Value).ownBlock ∧ some k_ ≠ (v170 : Value).ownBlock ∧ some k_ ≠ (v173 : Value).ownBlock ∧ k_ ≠ gb118)) (Kd.R_apart' (Kd.R_apart' (Kd.R_apart' (Kd.R_apart' (Kd.R_apart' (HO181.out) (Kd.N_typed HO136.out) (by decide)) (Kd.R_typed HO157.out) (by decide)) (Kd.R_typed HO160.out) (by decide)) (Kd.R_typed HO164.out) (by decide)) (Kd.R_typed HO167.out) (by decide)) (fun k_ hk => ⟨hk.1.1.1.1.2, ⟨hk.1.1.1.2, ⟨hk.1.1.2, ⟨hk.1.2, ⟨hk.2, ⟨hk.1.1.1.1.1.1, ⟨hk.1.1.1.1.1.2.1, hk.1.1.1.1.1.2.2⟩⟩⟩⟩⟩⟩⟩))))) (Reps.c5 (show Kd.FK k40 _ _ (⟨2, 8, (⟨#[]⟩ : ByteArray), false, ([] : List (S53))⟩ : S40) [.int .i64 2, .int .i64 8, .string (⟨#[]⟩ : ByteArray), .bool false, .slice none 0 0] from (k40_mkF _ _ (⟨2, 8, (⟨#[]⟩ : ByteArray), false, ([] : List (S53))⟩ : S40) (Nat.le_refl _) (Kd.F_nil _ _ _))) (Reps.none _ _))))
            intro v183 w60 ho61 hb hg_ hnew_
            clear hg_ hnew_
            (first | rw [← Ny182.out] at ho61 | (simp only [Int.reduceToNat] at ho61; rw [← Ny182.out] at ho61))
            have n0_ := Sd.mk (Kd.N_elder' (q30N HO136.out) (Kd.N_base ho61) hb)
            have n1_ := Sd.mk (Kd.V_elder' (q30V HO145.out) (Kd.N_base ho61) hb)
            have n2_ := Sd.mk (Kd.V_elder' (q30V HO154.out) (Kd.N_base ho61) hb)
            have n3_ := Sd.mk (Kd.R_below (q30R HO157.out) hb)
            have n4_ := Sd.mk (Kd.R_below (q30R HO160.out) hb)
            have n5_ := Sd.mk (Kd.R_below (q30R HO164.out) hb)
            have n6_ := Sd.mk (Kd.R_below (q30R HO167.out) hb)
            have n7_ := Sd.mk (Kd.R_below (q30R HO171.out) hb)
            have n8_ := Sd.mk (Kd.R_below (q30R HO174.out) hb)
            have n9_ := Sd.mk (Kd.N_lower ho61 (below_size bel_))
            have n10_ := Sd.mk (blk_below (g := gb118) (o := .cells #[.int .i64 1, .int .i64 0, .int .i64 0, .string (⟨#[97]⟩ : ByteArray)] 53 (0, 0)) blk_ hb)
            have n11_ := Sd.mk (below_step bel_ hb)
            clear HO136
            clear HO145
            clear HO154
            clear HO157
            clear HO160
            clear HO164
            clear HO167
            clear HO171
            clear HO174
            clear BK118
            clear HB
            clear HO181
            have HO136 := n0_
            have HO145 := n1_
            have HO154 := n2_
            have HO157 := n3_
            have HO160 := n4_
            have HO164 := n5_
            have HO167 := n6_
            have HO171 := n7_
            have HO174 := n8_
            have HO184 := n9_
            have BK118 := n10_
            have HB := n11_
            clear n0_ n1_ n2_ n3_ n4_ n5_ n6_ n7_ n8_ n9_ n10_ n11_
            clear hb ho61
            refine hK.out _ _ ⟨(blk_cell BK118.out 0).trans rfl, (blk_cell BK118.out 1).trans rfl, (blk_cell BK118.out 2).trans rfl, (blk_cell BK118.out 3).trans rfl⟩ (fun hHeld => ?_)
            clear hK K
            refine norm_ (a' := ?_) ?_ ?_
            rotate_left
            ·
             show Act.put _ (some 50) _ = _
             simp only [Act.put, List.setIfInBounds_toArray, List.set_cons_zero, List.set_cons_succ, i64_w, i32_w]
             rfl
            exact norm_ (by first | (simp only [putAll, Act.put, List.setIfInBounds_toArray, List.set_cons_zero, List.set_cons_succ]; done) | (simp only [putAll, Act.put, List.setIfInBounds_toArray, List.set_cons_zero, List.set_cons_succ]; rfl)) (hJ12_13_14_18_19_20_24_26_27_33_36 (v156, v159, v163, v166, v170, v173, .slice Ao59 y179.length co59, v183) _ ⟨hHeld, (by (with_reducible repeat (first | apply Kd.N_alloc | apply Kd.N_drewN | apply Kd.N_drew)); exact Kd.N_mono HO136.out (fun _ hk => ⟨hk.1.1, ⟨hk.1.2.1, ⟨hk.1.2.2.1, ⟨hk.1.2.2.2.1, ⟨hk.1.2.2.2.2.1, ⟨hk.1.2.2.2.2.2.1, ⟨hk.2, hk.1.2.2.2.2.2.2.2⟩⟩⟩⟩⟩⟩⟩)), (by (with_reducible repeat (first | apply Kd.V_alloc | apply Kd.V_drewN | apply Kd.V_drew)); exact Kd.V_mono HO145.out (fun _ hk => ⟨hk.1.1, ⟨hk.1.2.1, ⟨hk.1.2.2.1, ⟨hk.1.2.2.2.1, ⟨hk.1.2.2.2.2.1, ⟨hk.1.2.2.2.2.2.1, ⟨hk.2, hk.1.2.2.2.2.2.2.2⟩⟩⟩⟩⟩⟩⟩)), (by (with_reducible repeat (first | apply Kd.V_alloc | apply Kd.V_drewN | apply Kd.V_drew)); exact Kd.V_mono HO154.out (fun _ hk => ⟨hk.1.1, ⟨hk.1.2.1, ⟨hk.1.2.2.1, ⟨hk.1.2.2.2.1, ⟨hk.1.2.2.2.2.1, ⟨hk.1.2.2.2.2.2.1, ⟨hk.2, hk.1.2.2.2.2.2.2.2⟩⟩⟩⟩⟩⟩⟩)), (q30R HO157.out), (q30R HO160.out), (q30R HO164.out), (q30R HO167.out), (by (with_reducible repeat (first | apply Kd.R_alloc | apply Kd.R_drewN | apply Kd.R_drew)); exact Kd.R_mono HO171.out (fun _ hk => ⟨hk.1, hk.2.2⟩)), (by (with_reducible repeat (first | apply Kd.R_alloc | apply Kd.R_drewN | apply Kd.R_drew)); exact Kd.R_mono HO174.out (fun _ hk => ⟨hk.1, hk.2.2⟩)), (q30N HO184.out), blk_, bel_⟩)
         ·
          skip
          rintro ⟨v156, v159, v163, v166, v170, v173, v177⟩ w56 ⟨hS_, h0_, h1_, h2_, h3_, h4_, h5_, h6_, h7_, h8_, h9_, h10_, h11_⟩
          have n0_ : Sd (Kd.N (Kd.slice 28 k28) 51 w56 w.heap.size (fun k_ => some k_ ≠ (v156 : Value).ownBlock ∧ some k_ ≠ (v159 : Value).ownBlock ∧ some k_ ≠ (v163 : Value).ownBlock ∧ some k_ ≠ (v166 : Value).ownBlock ∧ some k_ ≠ (v170 : Value).ownBlock ∧ some k_ ≠ (v173 : Value).ownBlock ∧ some k_ ≠ (v177 : Value).ownBlock ∧ k_ ≠ gb118) (.slice Ao36 y134.length co36) y134) := ⟨h0_⟩
          have n1_ : Sd (Kd.V k53 53 w56 w.heap.size (fun k_ => some k_ ≠ (v156 : Value).ownBlock ∧ some k_ ≠ (v159 : Value).ownBlock ∧ some k_ ≠ (v163 : Value).ownBlock ∧ some k_ ≠ (v166 : Value).ownBlock ∧ some k_ ≠ (v170 : Value).ownBlock ∧ some k_ ≠ (v173 : Value).ownBlock ∧ some k_ ≠ (v177 : Value).ownBlock ∧ k_ ≠ gb118) v144 t143) := ⟨h1_⟩
          have n2_ : Sd (Kd.V k53 53 w56 w.heap.size (fun k_ => some k_ ≠ (v156 : Value).ownBlock ∧ some k_ ≠ (v159 : Value).ownBlock ∧ some k_ ≠ (v163 : Value).ownBlock ∧ some k_ ≠ (v166 : Value).ownBlock ∧ some k_ ≠ (v170 : Value).ownBlock ∧ some k_ ≠ (v173 : Value).ownBlock ∧ some k_ ≠ (v177 : Value).ownBlock ∧ k_ ≠ gb118) v153 t152) := ⟨h2_⟩
          have n3_ : Sd (Kd.R (Kd.int .i64) 3 w56 w.heap.size (fun k_ => some k_ ≠ (v159 : Value).ownBlock ∧ some k_ ≠ (v163 : Value).ownBlock ∧ some k_ ≠ (v166 : Value).ownBlock) v156 t155) := ⟨h3_⟩
          have n4_ : Sd (Kd.R (Kd.int .i64) 3 w56 w.heap.size (fun k_ => some k_ ≠ (v156 : Value).ownBlock ∧ some k_ ≠ (v163 : Value).ownBlock ∧ some k_ ≠ (v166 : Value).ownBlock) v159 y158) := ⟨h4_⟩
          have n5_ : Sd (Kd.R (Kd.int .i64) 3 w56 w.heap.size (fun k_ => some k_ ≠ (v156 : Value).ownBlock ∧ some k_ ≠ (v159 : Value).ownBlock ∧ some k_ ≠ (v166 : Value).ownBlock) v163 t162) := ⟨h5_⟩
          have n6_ : Sd (Kd.R (Kd.int .i64) 3 w56 w.heap.size (fun k_ => some k_ ≠ (v156 : Value).ownBlock ∧ some k_ ≠ (v159 : Value).ownBlock ∧ some k_ ≠ (v163 : Value).ownBlock) v166 y165) := ⟨h6_⟩
          have n7_ : Sd (Kd.R k53 53 w56 w.heap.size (fun k_ => some k_ ≠ (v173 : Value).ownBlock ∧ k_ ≠ gb118) v170 t169) := ⟨h7_⟩
          have n8_ : Sd (Kd.R k53 53 w56 w.heap.size (fun k_ => some k_ ≠ (v170 : Value).ownBlock ∧ k_ ≠ gb118) v173 y172) := ⟨h8_⟩
          have n9_ : Sd (Kd.N k40 40 w56 w.heap.size (fun k_ => some k_ ≠ (.slice Ao36 y134.length co36 : Value).ownBlock ∧ some k_ ≠ (v156 : Value).ownBlock ∧ some k_ ≠ (v159 : Value).ownBlock ∧ some k_ ≠ (v163 : Value).ownBlock ∧ some k_ ≠ (v166 : Value).ownBlock ∧ some k_ ≠ (v170 : Value).ownBlock ∧ some k_ ≠ (v173 : Value).ownBlock ∧ k_ ≠ gb118) v177 t176) := ⟨h9_⟩
          have n10_ : Sd (w56.heap[gb118]? = some (.cells #[.int .i64 1, .int .i64 0, .int .i64 0, .string (⟨#[97]⟩ : ByteArray)] 53 (0, 0))) := ⟨h10_⟩
          have n11_ : Sd (Below w.heap.size w w56) := ⟨h11_⟩
          clear HO136
          clear BK118
          clear HB
          clear h0_ h1_ h2_ h3_ h4_ h5_ h6_ h7_ h8_ h9_ h10_ h11_
          have HO136 := n0_
          have HO145 := n1_
          have HO154 := n2_
          have HO157 := n3_
          have HO160 := n4_
          have HO164 := n5_
          have HO167 := n6_
          have HO171 := n7_
          have HO174 := n8_
          have HO178 := n9_
          have BK118 := n10_
          have HB := n11_
          clear n0_ n1_ n2_ n3_ n4_ n5_ n6_ n7_ n8_ n9_ n10_ n11_
          have hHeld : w56.cell? ⟨gb118, 0, none⟩ = some (.int .i64 1) ∧ w56.cell? ⟨gb118, 1, none⟩ = some (.int .i64 0) ∧ w56.cell? ⟨gb118, 2, none⟩ = some (.int .i64 0) ∧ w56.cell? ⟨gb118, 3, none⟩ = some (.string (⟨#[97]⟩ : ByteArray)) := hS_
          refine norm_ (a' := ?_) ?_ ?_
          rotate_left
          ·
           simp only [putAll, Act.put, List.setIfInBounds_toArray, List.set_cons_zero, List.set_cons_succ]
           rfl
          refine one_ (i := 33) (N := some 47) #[true,true,true,true,true,true,true,true,true,true,true,true,true,true,true,true,true,true,true,true,true,true,true,true,true,true,true,true,true,true,true,true,true,true,false,true,false,false,false,false] rfl rfl (one_of HT_.out (by kernel_rfl)) (by decide) (fun K hK => ?_)
          refine Kd.R_lit_step k53 _ 53 ?hg (N := 47) ?hd (xs := ([(⟨1, 0, 0, (⟨#[97]⟩ : ByteArray)⟩ : S53)] : List (S53))) (inner := [.int .i64 1, .int .i64 0, .int .i64 0, .string (⟨#[97]⟩ : ByteArray)]) (ok := fun _ => True) (okp := fun _ => True) ?hr ?hp (fun _ hk => hk) trivial (Below.refl _ _) (Nat.le_refl _) (by simp) ?_; (case hd => rfl); (case hg => rfl); (case hr => first | (go_simp; done) | (go_simp; rfl)); (case hp => exact (Reps.c4 (show Kd.M k53 _ _ _ (⟨1, 0, 0, (⟨#[97]⟩ : ByteArray)⟩ : S53) [.int .i64 1, .int .i64 0, .int .i64 0, .string (⟨#[97]⟩ : ByteArray)] from (k53_mkM _ _ _ (⟨1, 0, 0, (⟨#[97]⟩ : ByteArray)⟩ : S53) )) (Reps.none _ _)))
          intro v180 w57 ho58 hb hg_ hnew_
          clear hg_ hnew_
          (first | rw [← Ny179.out] at ho58 | (simp only [Int.reduceToNat] at ho58; rw [← Ny179.out] at ho58))
          have n0_ := Sd.mk (Kd.N_elder' (q30N HO136.out) (Kd.R_base ho58) hb)
          have n1_ := Sd.mk (Kd.V_elder' (q30V HO145.out) (Kd.R_base ho58) hb)
          have n2_ := Sd.mk (Kd.V_elder' (q30V HO154.out) (Kd.R_base ho58) hb)
          have n3_ := Sd.mk (Kd.R_below (q30R HO157.out) hb)
          have n4_ := Sd.mk (Kd.R_below (q30R HO160.out) hb)
          have n5_ := Sd.mk (Kd.R_below (q30R HO164.out) hb)
          have n6_ := Sd.mk (Kd.R_below (q30R HO167.out) hb)
          have n7_ := Sd.mk (Kd.R_elder' (q30R HO171.out) (Kd.R_base ho58) hb)
          have n8_ := Sd.mk (Kd.R_elder' (q30R HO174.out) (Kd.R_base ho58) hb)
          have n9_ := Sd.mk (Kd.N_elder' (q30N HO178.out) (Kd.R_base ho58) hb)
          have n10_ := Sd.mk (Kd.R_lower (Kd.R_newB (Kd.R_new' (Kd.R_new' ho58 (Kd.R_lt (q30R HO171.out))) (Kd.R_lt (q30R HO174.out))) (g := gb118) (o := .cells #[.int .i64 1, .int .i64 0, .int .i64 0, .string (⟨#[97]⟩ : ByteArray)] 53 (0, 0)) blk_) (below_size bel_))
          have n11_ := Sd.mk (blk_below (g := gb118) (o := .cells #[.int .i64 1, .int .i64 0, .int .i64 0, .string (⟨#[97]⟩ : ByteArray)] 53 (0, 0)) blk_ hb)
          have n12_ := Sd.mk (below_step bel_ hb)
          clear HO136
          clear HO145
          clear HO154
          clear HO157
          clear HO160
          clear HO164
          clear HO167
          clear HO171
          clear HO174
          clear HO178
          clear BK118
          clear HB
          have HO136 := n0_
          have HO145 := n1_
          have HO154 := n2_
          have HO157 := n3_
          have HO160 := n4_
          have HO164 := n5_
          have HO167 := n6_
          have HO171 := n7_
          have HO174 := n8_
          have HO178 := n9_
          have HO181 := n10_
          have BK118 := n11_
          have HB := n12_
          clear n0_ n1_ n2_ n3_ n4_ n5_ n6_ n7_ n8_ n9_ n10_ n11_ n12_
          clear hb ho58
          obtain ⟨Ao59, co59, eo59⟩ := Kd.R_slice HO181.out
          (first | subst eo59 | (injection eo59 with f1_ f2_ f3_; have f4_ := f1_.symm; have f5_ := f3_.symm; clear f1_ f2_ f3_; subst f4_; subst f5_))
          refine hK.out _ _ ⟨(blk_cell BK118.out 0).trans rfl, (blk_cell BK118.out 1).trans rfl, (blk_cell BK118.out 2).trans rfl, (blk_cell BK118.out 3).trans rfl⟩ (fun hHeld => ?_)
          clear hK K
          refine norm_ (a' := ?_) ?_ ?_
          rotate_left
          ·
           show Act.put _ (some 47) _ = _
           simp only [Act.put, List.setIfInBounds_toArray, List.set_cons_zero, List.set_cons_succ, i64_w, i32_w]
           rfl
          refine pure_ (i := 34) (N := some 48) (v := ?_) (a' := ?_) #[true,true,true,true,true,true,true,true,true,true,true,true,true,true,true,true,true,true,true,true,true,true,true,true,true,true,true,true,true,true,true,true,true,true,true,true,false,false,false,false] rfl rfl (any_of HT_.out (by kernel_rfl)) (fun _ _ _ h => h) (Or.inl ⟨by rfl, ?_⟩) ?_ ?_
          rotate_left
          ·
           intro w'
           go_simp
           with_reducible rfl
          rotate_left
          ·
           simp only [Act.put, List.setIfInBounds_toArray, List.set_cons_zero, List.set_cons_succ, i64_w, i32_w]
           rfl
          exact norm_ (by first | (simp only [putAll, Act.put, List.setIfInBounds_toArray, List.set_cons_zero, List.set_cons_succ]; done) | (simp only [putAll, Act.put, List.setIfInBounds_toArray, List.set_cons_zero, List.set_cons_succ]; rfl)) (hJ12_13_14_18_19_20_24_26_27_31_33 (v156, v159, v163, v166, v170, v173, v177, .slice Ao59 y179.length co59) _ ⟨hHeld, (by (with_reducible repeat (first | apply Kd.N_alloc | apply Kd.N_drewN | apply Kd.N_drew)); exact Kd.N_mono HO136.out (fun _ hk => ⟨hk.1.1, ⟨hk.1.2.1, ⟨hk.1.2.2.1, ⟨hk.1.2.2.2.1, ⟨hk.1.2.2.2.2.1, ⟨hk.1.2.2.2.2.2.1, ⟨hk.1.2.2.2.2.2.2.1, ⟨hk.2, hk.1.2.2.2.2.2.2.2⟩⟩⟩⟩⟩⟩⟩⟩)), (by (with_reducible repeat (first | apply Kd.V_alloc | apply Kd.V_drewN | apply Kd.V_drew)); exact Kd.V_mono HO145.out (fun _ hk => ⟨hk.1.1, ⟨hk.1.2.1, ⟨hk.1.2.2.1, ⟨hk.1.2.2.2.1, ⟨hk.1.2.2.2.2.1, ⟨hk.1.2.2.2.2.2.1, ⟨hk.1.2.2.2.2.2.2.1, ⟨hk.2, hk.1.2.2.2.2.2.2.2⟩⟩⟩⟩⟩⟩⟩⟩)), (by (with_reducible repeat (first | apply Kd.V_alloc | apply Kd.V_drewN | apply Kd.V_drew)); exact Kd.V_mono HO154.out (fun _ hk => ⟨hk.1.1, ⟨hk.1.2.1, ⟨hk.1.2.2.1, ⟨hk.1.2.2.2.1, ⟨hk.1.2.2.2.2.1, ⟨hk.1.2.2.2.2.2.1, ⟨hk.1.2.2.2.2.2.2.1, ⟨hk.2, hk.1.2.2.2.2.2.2.2⟩⟩⟩⟩⟩⟩⟩⟩)), (q30R HO157.out), (q30R HO160.out), (q30R HO164.out), (q30R HO167.out), (by (with_reducible repeat (first | apply Kd.R_alloc | apply Kd.R_drewN | apply Kd.R_drew)); exact Kd.R_mono HO171.out (fun _ hk => ⟨hk.1.1, ⟨hk.2, hk.1.2⟩⟩)), (by (with_reducible repeat (first | apply Kd.R_alloc | apply Kd.R_drewN | apply Kd.R_drew)); exact Kd.R_mono HO174.out (fun _ hk => ⟨hk.1.1, ⟨hk.2, hk.1.2⟩⟩)), (by (with_reducible repeat (first | apply Kd.N_alloc | apply Kd.N_drewN | apply Kd.N_drew)); exact Kd.N_mono HO178.out (fun _ hk => ⟨hk.1.1, ⟨hk.1.2.1, ⟨hk.1.2.2.1, ⟨hk.1.2.2.2.1, ⟨hk.1.2.2.2.2.1, ⟨hk.1.2.2.2.2.2.1, ⟨hk.1.2.2.2.2.2.2.1, ⟨hk.2, hk.1.2.2.2.2.2.2.2⟩⟩⟩⟩⟩⟩⟩⟩)), (by (with_reducible repeat (first | apply Kd.R_alloc | apply Kd.R_drewN | apply Kd.R_drew)); exact Kd.R_mono HO181.out (fun _ hk => ⟨hk.1.1.2, ⟨hk.1.2, hk.2⟩⟩)), blk_, bel_⟩)
        ·
         skip
         rintro ⟨v156, v159, v163, v166, v170, v173, v180, v183⟩ w60 ⟨hS_, h0_, h1_, h2_, h3_, h4_, h5_, h6_, h7_, h8_, h9_, h10_, h11_⟩
         have n0_ : Sd (Kd.N (Kd.slice 28 k28) 51 w60 w.heap.size (fun k_ => some k_ ≠ (v156 : Value).ownBlock ∧ some k_ ≠ (v159 : Value).ownBlock ∧ some k_ ≠ (v163 : Value).ownBlock ∧ some k_ ≠ (v166 : Value).ownBlock ∧ some k_ ≠ (v170 : Value).ownBlock ∧ some k_ ≠ (v173 : Value).ownBlock ∧ some k_ ≠ (v183 : Value).ownBlock ∧ k_ ≠ gb118) (.slice Ao36 y134.length co36) y134) := ⟨h0_⟩
         have n1_ : Sd (Kd.V k53 53 w60 w.heap.size (fun k_ => some k_ ≠ (v156 : Value).ownBlock ∧ some k_ ≠ (v159 : Value).ownBlock ∧ some k_ ≠ (v163 : Value).ownBlock ∧ some k_ ≠ (v166 : Value).ownBlock ∧ some k_ ≠ (v170 : Value).ownBlock ∧ some k_ ≠ (v173 : Value).ownBlock ∧ some k_ ≠ (v183 : Value).ownBlock ∧ k_ ≠ gb118) v144 t143) := ⟨h1_⟩
         have n2_ : Sd (Kd.V k53 53 w60 w.heap.size (fun k_ => some k_ ≠ (v156 : Value).ownBlock ∧ some k_ ≠ (v159 : Value).ownBlock ∧ some k_ ≠ (v163 : Value).ownBlock ∧ some k_ ≠ (v166 : Value).ownBlock ∧ some k_ ≠ (v170 : Value).ownBlock ∧ some k_ ≠ (v173 : Value).ownBlock ∧ some k_ ≠ (v183 : Value).ownBlock ∧ k_ ≠ gb118) v153 t152) := ⟨h2_⟩
         have n3_ : Sd (Kd.R (Kd.int .i64) 3 w60 w.heap.size (fun k_ => some k_ ≠ (v159 : Value).ownBlock ∧ some k_ ≠ (v163 : Value).ownBlock ∧ some k_ ≠ (v166 : Value).ownBlock) v156 t155) := ⟨h3_⟩
         have n4_ : Sd (Kd.R (Kd.int .i64) 3 w60 w.heap.size (fun k_ => some k_ ≠ (v156 : Value).ownBlock ∧ some k_ ≠ (v163 : Value).ownBlock ∧ some k_ ≠ (v166 : Value).ownBlock) v159 y158) := ⟨h4_⟩
         have n5_ : Sd (Kd.R (Kd.int .i64) 3 w60 w.heap.size (fun k_ => some k_ ≠ (v156 : Value).ownBlock ∧ some k_ ≠ (v159 : Value).ownBlock ∧ some k_ ≠ (v166 : Value).ownBlock) v163 t162) := ⟨h5_⟩
         have n6_ : Sd (Kd.R (Kd.int .i64) 3 w60 w.heap.size (fun k_ => some k_ ≠ (v156 : Value).ownBlock ∧ some k_ ≠ (v159 : Value).ownBlock ∧ some k_ ≠ (v163 : Value).ownBlock) v166 y165) := ⟨h6_⟩
         have n7_ : Sd (Kd.R k53 53 w60 w.heap.size (fun k_ => some k_ ≠ (v173 : Value).ownBlock ∧ k_ ≠ gb118) v170 t169) := ⟨h7_⟩
         have n8_ : Sd (Kd.R k53 53 w60 w.heap.size (fun k_ => some k_ ≠ (v170 : Value).ownBlock ∧ k_ ≠ gb118) v173 y172) := ⟨h8_⟩
         have n9_ : Sd (Kd.N k40 40 w60 w.heap.size (fun k_ => some k_ ≠ (.slice Ao36 y134.length co36 : Value).ownBlock ∧ some k_ ≠ (v156 : Value).ownBlock ∧ some k_ ≠ (v159 : Value).ownBlock ∧ some k_ ≠ (v163 : Value).ownBlock ∧ some k_ ≠ (v166 : Value).ownBlock ∧ some k_ ≠ (v170 : Value).ownBlock ∧ some k_ ≠ (v173 : Value).ownBlock ∧ k_ ≠ gb118) v183 y182) := ⟨h9_⟩
         have n10_ : Sd (w60.heap[gb118]? = some (.cells #[.int .i64 1, .int .i64 0, .int .i64 0, .string (⟨#[97]⟩ : ByteArray)] 53 (0, 0))) := ⟨h10_⟩
         have n11_ : Sd (Below w.heap.size w w60) := ⟨h11_⟩
         clear HO136
         clear BK118
         clear HB
         clear h0_ h1_ h2_ h3_ h4_ h5_ h6_ h7_ h8_ h9_ h10_ h11_
         have HO136 := n0_
         have HO145 := n1_
         have HO154 := n2_
         have HO157 := n3_
         have HO160 := n4_
         have HO164 := n5_
         have HO167 := n6_
         have HO171 := n7_
         have HO174 := n8_
         have HO184 := n9_
         have BK118 := n10_
         have HB := n11_
         clear n0_ n1_ n2_ n3_ n4_ n5_ n6_ n7_ n8_ n9_ n10_ n11_
         have hHeld : w60.cell? ⟨gb118, 0, none⟩ = some (.int .i64 1) ∧ w60.cell? ⟨gb118, 1, none⟩ = some (.int .i64 0) ∧ w60.cell? ⟨gb118, 2, none⟩ = some (.int .i64 0) ∧ w60.cell? ⟨gb118, 3, none⟩ = some (.string (⟨#[97]⟩ : ByteArray)) := hS_
         refine norm_ (a' := ?_) ?_ ?_
         rotate_left
         ·
          simp only [putAll, Act.put, List.setIfInBounds_toArray, List.set_cons_zero, List.set_cons_succ]
          rfl
         refine one_ (i := 31) (N := some 45) #[true,true,true,true,true,true,true,true,true,true,true,true,true,true,true,true,true,true,true,true,true,true,true,true,true,true,true,true,true,true,true,true,true,true,true,true,true,false,false,false] rfl rfl (one_of HT_.out (by kernel_rfl)) (by decide) (fun K hK => ?_)
         refine goes_ Try.func23 (by kernel_rfl) rfl #[.slice Ao36 y134.length co36, .int .i64 0] (by rfl) rfl rfl (by (try simp only [List.map_toArray, List.map_cons, List.map_nil]); first | done | rfl | (simp only [List.length_drop, List.length_take]; rfl)) ?_
         with_reducible refine (trace_Cycles.calls _ _ y134 0 t176 _ ?side1 ?side2 A14.out).mono ?_
         (case side1 => repeat (first | exact (Kd.N_reads' HO136.out).2.2 | (with_reducible refine Kd.C_alloc ?_ _) | (with_reducible refine Kd.C_drewN ?_ _) | (with_reducible refine Kd.C_drew ?_)))
         (case side2 => exact (Kd.N_reads' HO136.out).2.1)
         rintro e w61 ⟨v177, rfl, ho0, hb⟩
         refine ⟨_, rfl, ?_⟩
         have n0_ := Sd.mk (Kd.N_elder' (q30N HO136.out) (by first | exact Kd.N_base ho0 | exact Kd.S_base ho0) hb)
         have n1_ := Sd.mk (Kd.V_elder' (q30V HO145.out) (by first | exact Kd.N_base ho0 | exact Kd.S_base ho0) hb)
         have n2_ := Sd.mk (Kd.V_elder' (q30V HO154.out) (by first | exact Kd.N_base ho0 | exact Kd.S_base ho0) hb)
         have n3_ := Sd.mk (Kd.R_below (q30R HO157.out) hb)
         have n4_ := Sd.mk (Kd.R_below (q30R HO160.out) hb)
         have n5_ := Sd.mk (Kd.R_below (q30R HO164.out) hb)
         have n6_ := Sd.mk (Kd.R_below (q30R HO167.out) hb)
         have n7_ := Sd.mk (Kd.R_below (q30R HO171.out) hb)
         have n8_ := Sd.mk (Kd.R_below (q30R HO174.out) hb)
         have n9_ := Sd.mk (Kd.N_elder' (q30N HO184.out) (by first | exact Kd.N_base ho0 | exact Kd.S_base ho0) hb)
         have n10_ := Sd.mk (Kd.N_lower (Kd.N_mono (ok' := fun k_ => some k_ ≠ (.slice Ao36 y134.length co36 : Value).ownBlock ∧ some k_ ≠ (v156 : Value).ownBlock ∧ some k_ ≠ (v159 : Value).ownBlock ∧ some k_ ≠ (v163 : Value).ownBlock ∧ some k_ ≠ (v166 : Value).ownBlock ∧ some k_ ≠ (v170 : Value).ownBlock ∧ some k_ ≠ (v173 : Value).ownBlock ∧ some k_ ≠ (v183 : Value).ownBlock ∧ k_ ≠ gb118) (Kd.S_N (Kd.S_bound ho0)) (fun k_ hk_ => ⟨(Kd.fresh' (Kd.N_lt (q30N HO136.out)) k_ hk_.2.1), (Kd.fresh' (Kd.R_lt (q30R HO157.out)) k_ hk_.2.1), (Kd.fresh' (Kd.R_lt (q30R HO160.out)) k_ hk_.2.1), (Kd.fresh' (Kd.R_lt (q30R HO164.out)) k_ hk_.2.1), (Kd.fresh' (Kd.R_lt (q30R HO167.out)) k_ hk_.2.1), (Kd.fresh' (Kd.R_lt (q30R HO171.out)) k_ hk_.2.1), (Kd.fresh' (Kd.R_lt (q30R HO174.out)) k_ hk_.2.1), (Kd.fresh' (Kd.N_lt (q30N HO184.out)) k_ hk_.2.1), (Kd.freshB (g := gb118) (o := .cells #[.int .i64 1, .int .i64 0, .int .i64 0, .string (⟨#[97]⟩ : ByteArray)] 53 (0, 0)) blk_ k_ hk_.2.1)⟩)) (below_size bel_))
         have n11_ := Sd.mk (blk_below (g := gb118) (o := .cells #[.int .i64 1, .int .i64 0, .int .i64 0, .string (⟨#[97]⟩ : ByteArray)] 53 (0, 0)) blk_ hb)
         have n12_ := Sd.mk (below_step bel_ hb)
         clear HO136
         clear HO145
         clear HO154
         clear HO157
         clear HO160
         clear HO164
         clear HO167
         clear HO171
         clear HO174
         clear HO184
         clear BK118
         clear HB
         have HO136 := n0_
         have HO145 := n1_
         have HO154 := n2_
         have HO157 := n3_
         have HO160 := n4_
         have HO164 := n5_
         have HO167 := n6_
         have HO171 := n7_
         have HO174 := n8_
         have HO184 := n9_
         have HO178 := n10_
         have BK118 := n11_
         have HB := n12_
         clear n0_ n1_ n2_ n3_ n4_ n5_ n6_ n7_ n8_ n9_ n10_ n11_ n12_
         (try clear hb)
         (try clear hb2)
         (try clear hk)
         (try clear hi)
         (try clear ho0)
         refine hK.out _ _ ⟨(blk_cell BK118.out 0).trans rfl, (blk_cell BK118.out 1).trans rfl, (blk_cell BK118.out 2).trans rfl, (blk_cell BK118.out 3).trans rfl⟩ (fun hHeld => ?_)
         clear hK K
         refine norm_ (a' := ?_) ?_ ?_
         rotate_left
         ·
          show Act.put _ (some 45) _ = _
          simp only [Act.put, List.setIfInBounds_toArray, List.set_cons_zero, List.set_cons_succ, i64_w, i32_w]
          rfl
         exact norm_ (by first | (simp only [putAll, Act.put, List.setIfInBounds_toArray, List.set_cons_zero, List.set_cons_succ]; done) | (simp only [putAll, Act.put, List.setIfInBounds_toArray, List.set_cons_zero, List.set_cons_succ]; rfl)) (hJ12_13_14_18_19_20_24_26_27_31_33_36 (v156, v159, v163, v166, v170, v173, v177, v180, v183) _ ⟨hHeld, (by (with_reducible repeat (first | apply Kd.N_alloc | apply Kd.N_drewN | apply Kd.N_drew)); exact Kd.N_mono HO136.out (fun _ hk => ⟨hk.1.1, ⟨hk.1.2.1, ⟨hk.1.2.2.1, ⟨hk.1.2.2.2.1, ⟨hk.1.2.2.2.2.1, ⟨hk.1.2.2.2.2.2.1, ⟨hk.2, ⟨hk.1.2.2.2.2.2.2.1, hk.1.2.2.2.2.2.2.2⟩⟩⟩⟩⟩⟩⟩⟩)), (by (with_reducible repeat (first | apply Kd.V_alloc | apply Kd.V_drewN | apply Kd.V_drew)); exact Kd.V_mono HO145.out (fun _ hk => ⟨hk.1.1, ⟨hk.1.2.1, ⟨hk.1.2.2.1, ⟨hk.1.2.2.2.1, ⟨hk.1.2.2.2.2.1, ⟨hk.1.2.2.2.2.2.1, ⟨hk.2, ⟨hk.1.2.2.2.2.2.2.1, hk.1.2.2.2.2.2.2.2⟩⟩⟩⟩⟩⟩⟩⟩)), (by (with_reducible repeat (first | apply Kd.V_alloc | apply Kd.V_drewN | apply Kd.V_drew)); exact Kd.V_mono HO154.out (fun _ hk => ⟨hk.1.1, ⟨hk.1.2.1, ⟨hk.1.2.2.1, ⟨hk.1.2.2.2.1, ⟨hk.1.2.2.2.2.1, ⟨hk.1.2.2.2.2.2.1, ⟨hk.2, ⟨hk.1.2.2.2.2.2.2.1, hk.1.2.2.2.2.2.2.2⟩⟩⟩⟩⟩⟩⟩⟩)), (q30R HO157.out), (q30R HO160.out), (q30R HO164.out), (q30R HO167.out), (q30R HO171.out), (q30R HO174.out), (q30N HO178.out), (by (with_reducible repeat (first | apply Kd.N_alloc | apply Kd.N_drewN | apply Kd.N_drew)); exact Kd.N_mono HO184.out (fun _ hk => ⟨hk.1.1, ⟨hk.1.2.1, ⟨hk.1.2.2.1, ⟨hk.1.2.2.2.1, ⟨hk.1.2.2.2.2.1, ⟨hk.1.2.2.2.2.2.1, ⟨hk.1.2.2.2.2.2.2.1, ⟨hk.2, hk.1.2.2.2.2.2.2.2⟩⟩⟩⟩⟩⟩⟩⟩)), blk_, bel_⟩)
       ·
        skip
        rintro ⟨v156, v159, v163, v166, v170, v173, v177, v180⟩ w59 ⟨hS_, h0_, h1_, h2_, h3_, h4_, h5_, h6_, h7_, h8_, h9_, h10_, h11_, h12_⟩
        have n0_ : Sd (Kd.N (Kd.slice 28 k28) 51 w59 w.heap.size (fun k_ => some k_ ≠ (v156 : Value).ownBlock ∧ some k_ ≠ (v159 : Value).ownBlock ∧ some k_ ≠ (v163 : Value).ownBlock ∧ some k_ ≠ (v166 : Value).ownBlock ∧ some k_ ≠ (v170 : Value).ownBlock ∧ some k_ ≠ (v173 : Value).ownBlock ∧ some k_ ≠ (v177 : Value).ownBlock ∧ some k_ ≠ (v180 : Value).ownBlock ∧ k_ ≠ gb118) (.slice Ao36 y134.length co36) y134) := ⟨h0_⟩
        have n1_ : Sd (Kd.V k53 53 w59 w.heap.size (fun k_ => some k_ ≠ (v156 : Value).ownBlock ∧ some k_ ≠ (v159 : Value).ownBlock ∧ some k_ ≠ (v163 : Value).ownBlock ∧ some k_ ≠ (v166 : Value).ownBlock ∧ some k_ ≠ (v170 : Value).ownBlock ∧ some k_ ≠ (v173 : Value).ownBlock ∧ some k_ ≠ (v177 : Value).ownBlock ∧ some k_ ≠ (v180 : Value).ownBlock ∧ k_ ≠ gb118) v144 t143) := ⟨h1_⟩
        have n2_ : Sd (Kd.V k53 53 w59 w.heap.size (fun k_ => some k_ ≠ (v156 : Value).ownBlock ∧ some k_ ≠ (v159 : Value).ownBlock ∧ some k_ ≠ (v163 : Value).ownBlock ∧ some k_ ≠ (v166 : Value).ownBlock ∧ some k_ ≠ (v170 : Value).ownBlock ∧ some k_ ≠ (v173 : Value).ownBlock ∧ some k_ ≠ (v177 : Value).ownBlock ∧ some k_ ≠ (v180 : Value).ownBlock ∧ k_ ≠ gb118) v153 t152) := ⟨h2_⟩
        have n3_ : Sd (Kd.R (Kd.int .i64) 3 w59 w.heap.size (fun k_ => some k_ ≠ (v159 : Value).ownBlock ∧ some k_ ≠ (v163 : Value).ownBlock ∧ some k_ ≠ (v166 : Value).ownBlock) v156 t155) := ⟨h3_⟩
        have n4_ : Sd (Kd.R (Kd.int .i64) 3 w59 w.heap.size (fun k_ => some k_ ≠ (v156 : Value).ownBlock ∧ some k_ ≠ (v163 : Value).ownBlock ∧ some k_ ≠ (v166 : Value).ownBlock) v159 y158) := ⟨h4_⟩
        have n5_ : Sd (Kd.R (Kd.int .i64) 3 w59 w.heap.size (fun k_ => some k_ ≠ (v156 : Value).ownBlock ∧ some k_ ≠ (v159 : Value).ownBlock ∧ some k_ ≠ (v166 : Value).ownBlock) v163 t162) := ⟨h5_⟩
        have n6_ : Sd (Kd.R (Kd.int .i64) 3 w59 w.heap.size (fun k_ => some k_ ≠ (v156 : Value).ownBlock ∧ some k_ ≠ (v159 : Value).ownBlock ∧ some k_ ≠ (v163 : Value).ownBlock) v166 y165) := ⟨h6_⟩
        have n7_ : Sd (Kd.R k53 53 w59 w.heap.size (fun k_ => some k_ ≠ (v173 : Value).ownBlock ∧ some k_ ≠ (v180 : Value).ownBlock ∧ k_ ≠ gb118) v170 t169) := ⟨h7_⟩
        have n8_ : Sd (Kd.R k53 53 w59 w.heap.size (fun k_ => some k_ ≠ (v170 : Value).ownBlock ∧ some k_ ≠ (v180 : Value).ownBlock ∧ k_ ≠ gb118) v173 y172) := ⟨h8_⟩
        have n9_ : Sd (Kd.N k40 40 w59 w.heap.size (fun k_ => some k_ ≠ (.slice Ao36 y134.length co36 : Value).ownBlock ∧ some k_ ≠ (v156 : Value).ownBlock ∧ some k_ ≠ (v159 : Value).ownBlock ∧ some k_ ≠ (v163 : Value).ownBlock ∧ some k_ ≠ (v166 : Value).ownBlock ∧ some k_ ≠ (v170 : Value).ownBlock ∧ some k_ ≠ (v173 : Value).ownBlock ∧ some k_ ≠ (v180 : Value).ownBlock ∧ k_ ≠ gb118) v177 t176) := ⟨h9_⟩
        have n10_ : Sd (Kd.R k53 53 w59 w.heap.size (fun k_ => some k_ ≠ (v170 : Value).ownBlock ∧ some k_ ≠ (v173 : Value).ownBlock ∧ k_ ≠ gb118) v180 y179) := ⟨h10_⟩
        have n11_ : Sd (w59.heap[gb118]? = some (.cells #[.int .i64 1, .int .i64 0, .int .i64 0, .string (⟨#[97]⟩ : ByteArray)] 53 (0, 0))) := ⟨h11_⟩
        have n12_ : Sd (Below w.heap.size w w59) := ⟨h12_⟩
        clear HO136
        clear BK118
        clear HB
        clear h0_ h1_ h2_ h3_ h4_ h5_ h6_ h7_ h8_ h9_ h10_ h11_ h12_
        have HO136 := n0_
        have HO145 := n1_
        have HO154 := n2_
        have HO157 := n3_
        have HO160 := n4_
        have HO164 := n5_
        have HO167 := n6_
        have HO171 := n7_
        have HO174 := n8_
        have HO178 := n9_
        have HO181 := n10_
        have BK118 := n11_
        have HB := n12_
        clear n0_ n1_ n2_ n3_ n4_ n5_ n6_ n7_ n8_ n9_ n10_ n11_ n12_
        have hHeld : w59.cell? ⟨gb118, 0, none⟩ = some (.int .i64 1) ∧ w59.cell? ⟨gb118, 1, none⟩ = some (.int .i64 0) ∧ w59.cell? ⟨gb118, 2, none⟩ = some (.int .i64 0) ∧ w59.cell? ⟨gb118, 3, none⟩ = some (.string (⟨#[97]⟩ : ByteArray)) := hS_
        obtain ⟨Ao60, co60, eo60⟩ := Kd.R_slice HO181.out
        (first | subst eo60 | (injection eo60 with f1_ f2_ f3_; have f4_ := f1_.symm; have f5_ := f3_.symm; clear f1_ f2_ f3_; subst f4_; subst f5_))
        refine norm_ (a' := ?_) ?_ ?_
        rotate_left
        ·
         simp only [putAll, Act.put, List.setIfInBounds_toArray, List.set_cons_zero, List.set_cons_succ]
         rfl
        refine one_ (i := 36) (N := some 50) #[true,true,true,true,true,true,true,true,true,true,true,true,true,true,true,true,true,true,true,true,true,true,true,true,true,true,true,true,true,true,true,true,true,true,true,true,true,false,false,false] rfl rfl (one_of HT_.out (by kernel_rfl)) (by decide) (fun K hK => ?_)
        refine Kd.N_lit_step k40 _ 40 ?hg (N' := 50) ?hd (xs := ([(⟨0, 7, (⟨#[]⟩ : ByteArray), false, y179⟩ : S40), (⟨2, 8, (⟨#[]⟩ : ByteArray), false, ([] : List (S53))⟩ : S40)] : List (S40))) (inner := [.int .i64 0, .int .i64 7, .string (⟨#[]⟩ : ByteArray), .bool false, .slice Ao60 y179.length co60, .int .i64 2, .int .i64 8, .string (⟨#[]⟩ : ByteArray), .bool false, .slice none 0 0]) (ok := (fun k_ => some k_ ≠ (.slice Ao36 y134.length co36 : Value).ownBlock ∧ some k_ ≠ (v156 : Value).ownBlock ∧ some k_ ≠ (v159 : Value).ownBlock ∧ some k_ ≠ (v163 : Value).ownBlock ∧ some k_ ≠ (v166 : Value).ownBlock ∧ some k_ ≠ (v170 : Value).ownBlock ∧ some k_ ≠ (v173 : Value).ownBlock ∧ some k_ ≠ (v177 : Value).ownBlock ∧ k_ ≠ gb118)) (okp := (fun k_ => some k_ ≠ (.slice Ao36 y134.length co36 : Value).ownBlock ∧ some k_ ≠ (v156 : Value).ownBlock ∧ some k_ ≠ (v159 : Value).ownBlock ∧ some k_ ≠ (v163 : Value).ownBlock ∧ some k_ ≠ (v166 : Value).ownBlock ∧ some k_ ≠ (v170 : Value).ownBlock ∧ some k_ ≠ (v173 : Value).ownBlock ∧ some k_ ≠ (v177 : Value).ownBlock ∧ k_ ≠ gb118)) ?hr ?hp (fun _ hk => hk) ((show ∀ k_, w59.heap.size ≤ k_ → (fun k_ => some k_ ≠ (.slice Ao36 y134.length co36 : Value).ownBlock ∧ some k_ ≠ (v156 : Value).ownBlock ∧ some k_ ≠ (v159 : Value).ownBlock ∧ some k_ ≠ (v163 : Value).ownBlock ∧ some k_ ≠ (v166 : Value).ownBlock ∧ some k_ ≠ (v170 : Value).ownBlock ∧ some k_ ≠ (v173 : Value).ownBlock ∧ some k_ ≠ (v177 : Value).ownBlock ∧ k_ ≠ gb118) k_ from fun k_ hk => ⟨Kd.fresh' (Kd.N_lt (q30N HO136.out)) k_ hk, Kd.fresh' (Kd.R_lt (q30R HO157.out)) k_ hk, Kd.fresh' (Kd.R_lt (q30R HO160.out)) k_ hk, Kd.fresh' (Kd.R_lt (q30R HO164.out)) k_ hk, Kd.fresh' (Kd.R_lt (q30R HO167.out)) k_ hk, Kd.fresh' (Kd.R_lt (q30R HO171.out)) k_ hk, Kd.fresh' (Kd.R_lt (q30R HO174.out)) k_ hk, Kd.fresh' (Kd.N_lt (q30N HO178.out)) k_ hk, Kd.freshB (g := gb118) (o := .cells #[.int .i64 1, .int .i64 0, .int .i64 0, .string (⟨#[97]⟩ : ByteArray)] 53 (0, 0)) blk_ k_ hk⟩) _ (Nat.le_refl _)) (Below.refl _ _) (Nat.le_refl _) (by simp) ?_; (case hd => rfl); (case hg => rfl); (case hr => first | (go_simp; done) | (go_simp; rfl)); (case hp => exact (Reps.c5 (show Kd.FK k40 _ _ (⟨0, 7, (⟨#[]⟩ : ByteArray), false, y179⟩ : S40) [.int .i64 0, .int .i64 7, .string (⟨#[]⟩ : ByteArray), .bool false, .slice Ao60 y179.length co60] from (k40_mkF _ _ (⟨0, 7, (⟨#[]⟩ : ByteArray), false, y179⟩ : S40) (Kd.R_reads' (Kd.R_mono (ok' := (fun k_ => some k_ ≠ (.slice Ao36 y134.length co36 : Value).ownBlock ∧ some k_ ≠ (v156 : Value).ownBlock ∧ some k_ ≠ (v159 : Value).ownBlock ∧ some k_ ≠ (v163 : Value).ownBlock ∧ some k_ ≠ (v166 : Value).ownBlock ∧ some k_ ≠ (v170 : Value).ownBlock ∧ some k_ ≠ (v173 : Value).ownBlock ∧ some k_ ≠ (v177 : Value).ownBlock ∧ k_ ≠ gb118)) (Kd.R_apart' (Kd.R_apart' (Kd.R_apart' (Kd.R_apart' (Kd.R_apart' (Kd.R_apart' (HO181.out) (Kd.N_typed HO136.out) (by decide)) (Kd.R_typed HO157.out) (by decide)) (Kd.R_typed HO160.out) (by decide)) (Kd.R_typed HO164.out) (by decide)) (Kd.R_typed HO167.out) (by decide)) (Kd.N_typed HO178.out) (by decide)) (fun k_ hk => ⟨hk.1.1.1.1.1.2, ⟨hk.1.1.1.1.2, ⟨hk.1.1.1.2, ⟨hk.1.1.2, ⟨hk.1.2, ⟨hk.1.1.1.1.1.1.1, ⟨hk.1.1.1.1.1.1.2.1, ⟨hk.2, hk.1.1.1.1.1.1.2.2⟩⟩⟩⟩⟩⟩⟩⟩))).2.1 (Kd.R_F (Kd.R_mono (ok' := (fun k_ => some k_ ≠ (.slice Ao36 y134.length co36 : Value).ownBlock ∧ some k_ ≠ (v156 : Value).ownBlock ∧ some k_ ≠ (v159 : Value).ownBlock ∧ some k_ ≠ (v163 : Value).ownBlock ∧ some k_ ≠ (v166 : Value).ownBlock ∧ some k_ ≠ (v170 : Value).ownBlock ∧ some k_ ≠ (v173 : Value).ownBlock ∧ some k_ ≠ (v177 : Value).ownBlock ∧ k_ ≠ gb118)) (Kd.R_apart' (Kd.R_apart' (Kd.R_apart' (Kd.R_apart' (Kd.R_apart' (Kd.R_apart' (HO181.out) (Kd.N_typed HO136.out) (by decide)) (Kd.R_typed HO157.out) (by decide)) (Kd.R_typed HO160.out) (by decide)) (Kd.R_typed HO164.out) (by decide)) (Kd.R_typed HO167.out) (by decide)) (Kd.N_typed HO178.out) (by decide)) (fun k_ hk => ⟨hk.1.1.1.1.1.2, ⟨hk.1.1.1.1.2, ⟨hk.1.1.1.2, ⟨hk.1.1.2, ⟨hk.1.2, ⟨hk.1.1.1.1.1.1.1, ⟨hk.1.1.1.1.1.1.2.1, ⟨hk.2, hk.1.1.1.1.1.1.2.2⟩⟩⟩⟩⟩⟩⟩⟩))))) (Reps.c5 (show Kd.FK k40 _ _ (⟨2, 8, (⟨#[]⟩ : ByteArray), false, ([] : List (S53))⟩ : S40) [.int .i64 2, .int .i64 8, .string (⟨#[]⟩ : ByteArray), .bool false, .slice none 0 0] from (k40_mkF _ _ (⟨2, 8, (⟨#[]⟩ : ByteArray), false, ([] : List (S53))⟩ : S40) (Nat.le_refl _) (Kd.F_nil _ _ _))) (Reps.none _ _))))
        intro v183 w61 ho62 hb hg_ hnew_
        clear hg_ hnew_
        (first | rw [← Ny182.out] at ho62 | (simp only [Int.reduceToNat] at ho62; rw [← Ny182.out] at ho62))
        have n0_ := Sd.mk (Kd.N_elder' (q30N HO136.out) (Kd.N_base ho62) hb)
        have n1_ := Sd.mk (Kd.V_elder' (q30V HO145.out) (Kd.N_base ho62) hb)
        have n2_ := Sd.mk (Kd.V_elder' (q30V HO154.out) (Kd.N_base ho62) hb)
        have n3_ := Sd.mk (Kd.R_below (q30R HO157.out) hb)
        have n4_ := Sd.mk (Kd.R_below (q30R HO160.out) hb)
        have n5_ := Sd.mk (Kd.R_below (q30R HO164.out) hb)
        have n6_ := Sd.mk (Kd.R_below (q30R HO167.out) hb)
        have n7_ := Sd.mk (Kd.R_below (q30R HO171.out) hb)
        have n8_ := Sd.mk (Kd.R_below (q30R HO174.out) hb)
        have n9_ := Sd.mk (Kd.N_elder' (q30N HO178.out) (Kd.N_base ho62) hb)
        have n10_ := Sd.mk (Kd.N_lower ho62 (below_size bel_))
        have n11_ := Sd.mk (blk_below (g := gb118) (o := .cells #[.int .i64 1, .int .i64 0, .int .i64 0, .string (⟨#[97]⟩ : ByteArray)] 53 (0, 0)) blk_ hb)
        have n12_ := Sd.mk (below_step bel_ hb)
        clear HO136
        clear HO145
        clear HO154
        clear HO157
        clear HO160
        clear HO164
        clear HO167
        clear HO171
        clear HO174
        clear HO178
        clear BK118
        clear HB
        clear HO181
        have HO136 := n0_
        have HO145 := n1_
        have HO154 := n2_
        have HO157 := n3_
        have HO160 := n4_
        have HO164 := n5_
        have HO167 := n6_
        have HO171 := n7_
        have HO174 := n8_
        have HO178 := n9_
        have HO184 := n10_
        have BK118 := n11_
        have HB := n12_
        clear n0_ n1_ n2_ n3_ n4_ n5_ n6_ n7_ n8_ n9_ n10_ n11_ n12_
        clear hb ho62
        refine hK.out _ _ ⟨(blk_cell BK118.out 0).trans rfl, (blk_cell BK118.out 1).trans rfl, (blk_cell BK118.out 2).trans rfl, (blk_cell BK118.out 3).trans rfl⟩ (fun hHeld => ?_)
        clear hK K
        refine norm_ (a' := ?_) ?_ ?_
        rotate_left
        ·
         show Act.put _ (some 50) _ = _
         simp only [Act.put, List.setIfInBounds_toArray, List.set_cons_zero, List.set_cons_succ, i64_w, i32_w]
         rfl
        exact norm_ (by first | (simp only [putAll, Act.put, List.setIfInBounds_toArray, List.set_cons_zero, List.set_cons_succ]; done) | (simp only [putAll, Act.put, List.setIfInBounds_toArray, List.set_cons_zero, List.set_cons_succ]; rfl)) (hJ12_13_14_18_19_20_24_26_27_31_33_36 (v156, v159, v163, v166, v170, v173, v177, .slice Ao60 y179.length co60, v183) _ ⟨hHeld, (by (with_reducible repeat (first | apply Kd.N_alloc | apply Kd.N_drewN | apply Kd.N_drew)); exact Kd.N_mono HO136.out (fun _ hk => ⟨hk.1.1, ⟨hk.1.2.1, ⟨hk.1.2.2.1, ⟨hk.1.2.2.2.1, ⟨hk.1.2.2.2.2.1, ⟨hk.1.2.2.2.2.2.1, ⟨hk.1.2.2.2.2.2.2.1, ⟨hk.2, hk.1.2.2.2.2.2.2.2.2⟩⟩⟩⟩⟩⟩⟩⟩)), (by (with_reducible repeat (first | apply Kd.V_alloc | apply Kd.V_drewN | apply Kd.V_drew)); exact Kd.V_mono HO145.out (fun _ hk => ⟨hk.1.1, ⟨hk.1.2.1, ⟨hk.1.2.2.1, ⟨hk.1.2.2.2.1, ⟨hk.1.2.2.2.2.1, ⟨hk.1.2.2.2.2.2.1, ⟨hk.1.2.2.2.2.2.2.1, ⟨hk.2, hk.1.2.2.2.2.2.2.2.2⟩⟩⟩⟩⟩⟩⟩⟩)), (by (with_reducible repeat (first | apply Kd.V_alloc | apply Kd.V_drewN | apply Kd.V_drew)); exact Kd.V_mono HO154.out (fun _ hk => ⟨hk.1.1, ⟨hk.1.2.1, ⟨hk.1.2.2.1, ⟨hk.1.2.2.2.1, ⟨hk.1.2.2.2.2.1, ⟨hk.1.2.2.2.2.2.1, ⟨hk.1.2.2.2.2.2.2.1, ⟨hk.2, hk.1.2.2.2.2.2.2.2.2⟩⟩⟩⟩⟩⟩⟩⟩)), (q30R HO157.out), (q30R HO160.out), (q30R HO164.out), (q30R HO167.out), (by (with_reducible repeat (first | apply Kd.R_alloc | apply Kd.R_drewN | apply Kd.R_drew)); exact Kd.R_mono HO171.out (fun _ hk => ⟨hk.1, hk.2.2⟩)), (by (with_reducible repeat (first | apply Kd.R_alloc | apply Kd.R_drewN | apply Kd.R_drew)); exact Kd.R_mono HO174.out (fun _ hk => ⟨hk.1, hk.2.2⟩)), (by (with_reducible repeat (first | apply Kd.N_alloc | apply Kd.N_drewN | apply Kd.N_drew)); exact Kd.N_mono HO178.out (fun _ hk => ⟨hk.1.1, ⟨hk.1.2.1, ⟨hk.1.2.2.1, ⟨hk.1.2.2.2.1, ⟨hk.1.2.2.2.2.1, ⟨hk.1.2.2.2.2.2.1, ⟨hk.1.2.2.2.2.2.2.1, ⟨hk.2, hk.1.2.2.2.2.2.2.2.2⟩⟩⟩⟩⟩⟩⟩⟩)), (q30N HO184.out), blk_, bel_⟩)
      rintro ⟨v156, v159, v163, v166, v170, v173, v177, v180, v183⟩ w61 ⟨hS_, h0_, h1_, h2_, h3_, h4_, h5_, h6_, h7_, h8_, h9_, h10_, h11_, h12_⟩
      have n0_ : Sd (Kd.N (Kd.slice 28 k28) 51 w61 w.heap.size (fun k_ => some k_ ≠ (v156 : Value).ownBlock ∧ some k_ ≠ (v159 : Value).ownBlock ∧ some k_ ≠ (v163 : Value).ownBlock ∧ some k_ ≠ (v166 : Value).ownBlock ∧ some k_ ≠ (v170 : Value).ownBlock ∧ some k_ ≠ (v173 : Value).ownBlock ∧ some k_ ≠ (v177 : Value).ownBlock ∧ some k_ ≠ (v183 : Value).ownBlock ∧ k_ ≠ gb118) (.slice Ao36 y134.length co36) y134) := ⟨h0_⟩
      have n1_ : Sd (Kd.V k53 53 w61 w.heap.size (fun k_ => some k_ ≠ (v156 : Value).ownBlock ∧ some k_ ≠ (v159 : Value).ownBlock ∧ some k_ ≠ (v163 : Value).ownBlock ∧ some k_ ≠ (v166 : Value).ownBlock ∧ some k_ ≠ (v170 : Value).ownBlock ∧ some k_ ≠ (v173 : Value).ownBlock ∧ some k_ ≠ (v177 : Value).ownBlock ∧ some k_ ≠ (v183 : Value).ownBlock ∧ k_ ≠ gb118) v144 t143) := ⟨h1_⟩
      have n2_ : Sd (Kd.V k53 53 w61 w.heap.size (fun k_ => some k_ ≠ (v156 : Value).ownBlock ∧ some k_ ≠ (v159 : Value).ownBlock ∧ some k_ ≠ (v163 : Value).ownBlock ∧ some k_ ≠ (v166 : Value).ownBlock ∧ some k_ ≠ (v170 : Value).ownBlock ∧ some k_ ≠ (v173 : Value).ownBlock ∧ some k_ ≠ (v177 : Value).ownBlock ∧ some k_ ≠ (v183 : Value).ownBlock ∧ k_ ≠ gb118) v153 t152) := ⟨h2_⟩
      have n3_ : Sd (Kd.R (Kd.int .i64) 3 w61 w.heap.size (fun k_ => some k_ ≠ (v159 : Value).ownBlock ∧ some k_ ≠ (v163 : Value).ownBlock ∧ some k_ ≠ (v166 : Value).ownBlock) v156 t155) := ⟨h3_⟩
      have n4_ : Sd (Kd.R (Kd.int .i64) 3 w61 w.heap.size (fun k_ => some k_ ≠ (v156 : Value).ownBlock ∧ some k_ ≠ (v163 : Value).ownBlock ∧ some k_ ≠ (v166 : Value).ownBlock) v159 y158) := ⟨h4_⟩
      have n5_ : Sd (Kd.R (Kd.int .i64) 3 w61 w.heap.size (fun k_ => some k_ ≠ (v156 : Value).ownBlock ∧ some k_ ≠ (v159 : Value).ownBlock ∧ some k_ ≠ (v166 : Value).ownBlock) v163 t162) := ⟨h5_⟩
      have n6_ : Sd (Kd.R (Kd.int .i64) 3 w61 w.heap.size (fun k_ => some k_ ≠ (v156 : Value).ownBlock ∧ some k_ ≠ (v159 : Value).ownBlock ∧ some k_ ≠ (v163 : Value).ownBlock) v166 y165) := ⟨h6_⟩
      have n7_ : Sd (Kd.R k53 53 w61 w.heap.size (fun k_ => some k_ ≠ (v173 : Value).ownBlock ∧ k_ ≠ gb118) v170 t169) := ⟨h7_⟩
      have n8_ : Sd (Kd.R k53 53 w61 w.heap.size (fun k_ => some k_ ≠ (v170 : Value).ownBlock ∧ k_ ≠ gb118) v173 y172) := ⟨h8_⟩
      have n9_ : Sd (Kd.N k40 40 w61 w.heap.size (fun k_ => some k_ ≠ (.slice Ao36 y134.length co36 : Value).ownBlock ∧ some k_ ≠ (v156 : Value).ownBlock ∧ some k_ ≠ (v159 : Value).ownBlock ∧ some k_ ≠ (v163 : Value).ownBlock ∧ some k_ ≠ (v166 : Value).ownBlock ∧ some k_ ≠ (v170 : Value).ownBlock ∧ some k_ ≠ (v173 : Value).ownBlock ∧ some k_ ≠ (v183 : Value).ownBlock ∧ k_ ≠ gb118) v177 t176) := ⟨h9_⟩
      have n10_ : Sd (Kd.N k40 40 w61 w.heap.size (fun k_ => some k_ ≠ (.slice Ao36 y134.length co36 : Value).ownBlock ∧ some k_ ≠ (v156 : Value).ownBlock ∧ some k_ ≠ (v159 : Value).ownBlock ∧ some k_ ≠ (v163 : Value).ownBlock ∧ some k_ ≠ (v166 : Value).ownBlock ∧ some k_ ≠ (v170 : Value).ownBlock ∧ some k_ ≠ (v173 : Value).ownBlock ∧ some k_ ≠ (v177 : Value).ownBlock ∧ k_ ≠ gb118) v183 y182) := ⟨h10_⟩
      have n11_ : Sd (w61.heap[gb118]? = some (.cells #[.int .i64 1, .int .i64 0, .int .i64 0, .string (⟨#[97]⟩ : ByteArray)] 53 (0, 0))) := ⟨h11_⟩
      have n12_ : Sd (Below w.heap.size w w61) := ⟨h12_⟩
      clear HO136
      clear BK118
      clear HB
      clear h0_ h1_ h2_ h3_ h4_ h5_ h6_ h7_ h8_ h9_ h10_ h11_ h12_
      have HO136 := n0_
      have HO145 := n1_
      have HO154 := n2_
      have HO157 := n3_
      have HO160 := n4_
      have HO164 := n5_
      have HO167 := n6_
      have HO171 := n7_
      have HO174 := n8_
      have HO178 := n9_
      have HO184 := n10_
      have BK118 := n11_
      have HB := n12_
      clear n0_ n1_ n2_ n3_ n4_ n5_ n6_ n7_ n8_ n9_ n10_ n11_ n12_
      have hHeld : w61.cell? ⟨gb118, 0, none⟩ = some (.int .i64 1) ∧ w61.cell? ⟨gb118, 1, none⟩ = some (.int .i64 0) ∧ w61.cell? ⟨gb118, 2, none⟩ = some (.int .i64 0) ∧ w61.cell? ⟨gb118, 3, none⟩ = some (.string (⟨#[97]⟩ : ByteArray)) := hS_
      obtain ⟨Ao62, co62, eo62⟩ := Kd.N_slice HO178.out
      (first | subst eo62 | (injection eo62 with f1_ f2_ f3_; have f4_ := f1_.symm; have f5_ := f3_.symm; clear f1_ f2_ f3_; subst f4_; subst f5_))
      obtain ⟨Ao63, co63, eo63⟩ := Kd.N_slice HO184.out
      (first | subst eo63 | (injection eo63 with f1_ f2_ f3_; have f4_ := f1_.symm; have f5_ := f3_.symm; clear f1_ f2_ f3_; subst f4_; subst f5_))
      refine norm_ (a' := ?_) ?_ ?_
      rotate_left
      ·
       simp only [putAll, Act.put, List.setIfInBounds_toArray, List.set_cons_zero, List.set_cons_succ]
       rfl
      refine one_ (i := 37) (N := some 51) #[true,true,true,true,true,true,true,true,true,true,true,true,true,true,true,true,true,true,true,true,true,true,true,true,true,true,true,true,true,true,true,true,true,true,true,true,true,true,false,false] rfl rfl (one_of HT_.out (by kernel_rfl)) (by decide) (fun K hK => ?_)
      refine goes_ Try.func22 (by kernel_rfl) rfl #[.slice Ao62 t176.length co62, .slice Ao63 y182.length co63] (by rfl) rfl rfl (by (try simp only [List.map_toArray, List.map_cons, List.map_nil]); first | done | rfl | (simp only [List.length_drop, List.length_take]; rfl)) ?_
      with_reducible refine (r36Same.calls k _ _ t176 _ _ y182 t185 _ ?side1 ?side2 ?side3 ?side4 A15.out).mono ?_
      (case side1 => repeat (first | exact (Kd.N_reads' HO178.out).2.2 | (with_reducible refine Kd.C_alloc ?_ _) | (with_reducible refine Kd.C_drewN ?_ _) | (with_reducible refine Kd.C_drew ?_)))
      (case side2 => exact (Kd.N_reads' HO178.out).2.1)
      (case side3 => repeat (first | exact (Kd.N_reads' HO184.out).2.2 | (with_reducible refine Kd.C_alloc ?_ _) | (with_reducible refine Kd.C_drewN ?_ _) | (with_reducible refine Kd.C_drew ?_)))
      (case side4 => exact (Kd.N_reads' HO184.out).2.1)
      rintro e w64 ⟨rfl, hb⟩
      refine ⟨_, rfl, ?_⟩
      have n0_ := Sd.mk (Kd.N_below (q30N HO136.out) hb)
      have n1_ := Sd.mk (Kd.V_below (q30V HO145.out) hb)
      have n2_ := Sd.mk (Kd.V_below (q30V HO154.out) hb)
      have n3_ := Sd.mk (Kd.R_below (q30R HO157.out) hb)
      have n4_ := Sd.mk (Kd.R_below (q30R HO160.out) hb)
      have n5_ := Sd.mk (Kd.R_below (q30R HO164.out) hb)
      have n6_ := Sd.mk (Kd.R_below (q30R HO167.out) hb)
      have n7_ := Sd.mk (Kd.R_below (q30R HO171.out) hb)
      have n8_ := Sd.mk (Kd.R_below (q30R HO174.out) hb)
      have n9_ := Sd.mk (Kd.N_below (q30N HO178.out) hb)
      have n10_ := Sd.mk (Kd.N_below (q30N HO184.out) hb)
      have n11_ := Sd.mk (blk_below (g := gb118) (o := .cells #[.int .i64 1, .int .i64 0, .int .i64 0, .string (⟨#[97]⟩ : ByteArray)] 53 (0, 0)) blk_ hb)
      have n12_ := Sd.mk (below_step bel_ hb)
      clear HO136
      clear HO145
      clear HO154
      clear HO157
      clear HO160
      clear HO164
      clear HO167
      clear HO171
      clear HO174
      clear HO178
      clear HO184
      clear BK118
      clear HB
      have HO136 := n0_
      have HO145 := n1_
      have HO154 := n2_
      have HO157 := n3_
      have HO160 := n4_
      have HO164 := n5_
      have HO167 := n6_
      have HO171 := n7_
      have HO174 := n8_
      have HO178 := n9_
      have HO184 := n10_
      have BK118 := n11_
      have HB := n12_
      clear n0_ n1_ n2_ n3_ n4_ n5_ n6_ n7_ n8_ n9_ n10_ n11_ n12_
      (try clear hb)
      (try clear hb2)
      (try clear hk)
      (try clear hi)
      refine hK.out _ _ ⟨(blk_cell BK118.out 0).trans rfl, (blk_cell BK118.out 1).trans rfl, (blk_cell BK118.out 2).trans rfl, (blk_cell BK118.out 3).trans rfl⟩ (fun hHeld => ?_)
      clear hK K
      refine norm_ (a' := ?_) ?_ ?_
      rotate_left
      ·
       show Act.put _ (some 51) _ = _
       simp only [Act.put, List.setIfInBounds_toArray, List.set_cons_zero, List.set_cons_succ, i64_w, i32_w]
       rfl
      refine pure_ (i := 38) (N := some 52) (v := ?_) (a' := ?_) #[true,true,true,true,true,true,true,true,true,true,true,true,true,true,true,true,true,true,true,true,true,true,true,true,true,true,true,true,true,true,true,true,true,true,true,true,true,true,true,false] rfl rfl (any_of HT_.out (by kernel_rfl)) (fun _ _ _ h => h) (Or.inl ⟨by rfl, ?_⟩) ?_ ?_
      rotate_left
      ·
       intro w'
       go_simp
       with_reducible rfl
      rotate_left
      ·
       simp only [Act.put, List.setIfInBounds_toArray, List.set_cons_zero, List.set_cons_succ, i64_w, i32_w]
       rfl
      refine pure_ (i := 39) (N := some 0) (v := ?_) (a' := ?_) #[true,true,true,true,true,true,true,true,true,true,true,true,true,true,true,true,true,true,true,true,true,true,true,true,true,true,true,true,true,true,true,true,true,true,true,true,true,true,true,true] rfl rfl (any_of HT_.out (by kernel_rfl)) (fun _ _ _ h => h) (Or.inl ⟨by rfl, ?_⟩) ?_ ?_
      rotate_left
      ·
       intro w'
       go_simp
       with_reducible rfl
      rotate_left
      ·
       simp only [Act.put, List.setIfInBounds_toArray, List.set_cons_zero, List.set_cons_succ, i64_w, i32_w]
       rfl
      refine done_ (done_of HT_.out (by kernel_rfl)) ?_
      try go_wp2
      go_ret
      exact ⟨by first | rfl | (simp [errW_none, errW_some] <;> rfl) | (simp [*, errW_none, errW_some] <;> rfl), bel_⟩
     ·
      replace c13 := Bool.eq_false_iff.mpr c13
      subst c13
      have H1 : (some false) = some r := by rw [if_neg (show ¬ (false = true) by decide)] at H; exact H
      clear H
      have H := H1
      clear H1
      (have H3_ := Option.some.inj H; have H4_ := hT.out; rw [← H3_] at H4_; exact absurd H4_ (by decide))
    ·
     replace c10 := Bool.eq_false_iff.mpr c10
     subst c10
     have H1 : (some false) = some r := by rw [if_neg (show ¬ (false = true) by decide)] at H; exact H
     clear H
     have H := H1
     clear H1
     (have H3_ := Option.some.inj H; have H4_ := hT.out; rw [← H3_] at H4_; exact absurd H4_ (by decide))
   ·
    replace c7 := Bool.eq_false_iff.mpr c7
    subst c7
    have H1 : (some false) = some r := by rw [if_neg (show ¬ (false = true) by decide)] at H; exact H
    clear H
    have H := H1
    clear H1
    (have H3_ := Option.some.inj H; have H4_ := hT.out; rw [← H3_] at H4_; exact absurd H4_ (by decide))
  ·
   rw [if_neg c4] at H
   have c4b0 : (t151 == 0) = false := beq_eq_false_iff_ne.mpr c4
   have c4b1 : (t151 != 0) = true := bne_iff_ne.mpr c4
   (have H3_ := Option.some.inj H; have H4_ := hT.out; rw [← H3_] at H4_; exact absurd H4_ (by decide))
 ·
  rw [if_neg c2] at H
  have c2b0 : (t142 == 2) = false := beq_eq_false_iff_ne.mpr c2
  have c2b1 : (t142 != 2) = true := bne_iff_ne.mpr c2
  (have H3_ := Option.some.inj H; have H4_ := hT.out; rw [← H3_] at H4_; exact absurd H4_ (by decide))
end Go.Proofs.Ytmdnmofcgmmfbaa.T
