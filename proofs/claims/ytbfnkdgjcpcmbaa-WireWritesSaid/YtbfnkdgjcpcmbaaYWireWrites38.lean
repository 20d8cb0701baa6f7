import Derived.Maps.AppendAt
import Derived.Test.YtbfnkdgjcpcmbaaYWireWrites36
import Derived.Test.YtbfnkdgjcpcmbaaYWireWrites37
set_option maxHeartbeats 8000000
namespace Go.Proofs.Ytbfnkdgjcpcmbaa.X
open Go.RowKit Go.Proofs.YtbfnkdgjcpcmbaaW.PrintWords Go.Proofs.YtbfnkdgjcpcmbaaW.PrintLast Go.Proofs.YtbfnkdgjcpcmbaaW.PrintMore
attribute [local go_sem] max2_int min2_int max_two min_two max_three min_three max_four min_four   -- for this text's walks alone
set_option linter.unusedVariables false
set_option linter.unusedSimpArgs false
open Go
set_option maxHeartbeats 4000000
set_option maxRecDepth 100000
def wire_packetReader_packet.pv (k : Nat) (a0_0 a0_1 a0_2 a0_3 a0_4 a0_5 a0_6 a0_7 a0_8 a0_9 : Int) (l0_10 : List Int) (t : Int) (s : ByteArray) (a : Int) (b : Bool) : Option (Int × ByteArray × ByteArray × Int × Bool) :=
  if Go.bits .and .i64 t 1 = 0 then some (0, (⟨#[]⟩ : ByteArray), s, a, b) else (wire_reader_number.f k s a b).bind fun x => (conf_Bits.f k a0_0 a0_1 a0_2 a0_3 a0_4 a0_5 a0_6 a0_7 a0_8 a0_9 l0_10).bind fun m => (wire_reader_digits.f k x.2.1 x.2.2.1 (x.2.2.2 || (x.1 == 0)) m).bind fun y => some (x.1, y.1, y.2.1, y.2.2.1, y.2.2.2)
def wire_packetReader_packet.pm (k : Nat) (t : Int) (s : ByteArray) (a : Int) (b : Bool) : Option (Int × Int × ByteArray × ByteArray × Int × Bool) :=
  if Go.bits .and .i64 t 2 = 0 then some (0, 0, (⟨#[]⟩ : ByteArray), s, a, b) else (wire_reader_number.f k s a b).bind fun x => (wire_reader_number.f k x.2.1 x.2.2.1 (x.2.2.2 || (x.1 == 0))).bind fun y => (wire_reader_number.f k y.2.1 y.2.2.1 y.2.2.2).bind fun z => (wire_reader_text.f z.2.1 z.2.2.1 z.2.2.2 z.1).bind fun u => some (x.1, y.1, u.1, u.2.1, u.2.2.1, u.2.2.2)
def wire_packetReader_packet.f (k : Nat) (a0_0 a0_1 a0_2 a0_3 a0_4 a0_5 a0_6 a0_7 a0_8 a0_9 : Int) (l0_10 : List Int) (s : ByteArray) (a : Int) (b : Bool) : Option (ByteArray × Int × ByteArray × Int × Int × ByteArray × ByteArray × Int × Bool) :=
  (wire_reader_number.f k s a b).bind fun x1 => (conf_Rounds.f k a0_0 a0_1 a0_2 a0_3 a0_4 a0_5 a0_6 a0_7 a0_8 a0_9 l0_10).bind fun n => (wire_reader_digits.f k x1.2.1 x1.2.2.1 (x1.2.2.2 || (Go.bits .andNot .i64 x1.1 3 != 64)) n).bind fun x2 =>
  (wire_packetReader_packet.pv k a0_0 a0_1 a0_2 a0_3 a0_4 a0_5 a0_6 a0_7 a0_8 a0_9 l0_10 x1.1 x2.2.1 x2.2.2.1 x2.2.2.2).bind fun x3 => (wire_packetReader_packet.pm k x1.1 x3.2.2.1 x3.2.2.2.1 x3.2.2.2.2).bind fun x4 =>
  some (x2.1, x3.1, x3.2.1, x4.1, x4.2.1, x4.2.2.1, x4.2.2.2.1, x4.2.2.2.2.1, (x4.2.2.2.2.2 || (x4.2.2.2.2.1 != (x4.2.2.2.1.size : Int))))
theorem wire_packetReader_packet.mono : ∀ a0 a1 a2 a3 a4 a5 a6 a7 a8 a9 a10 b0 b1 b2 k, LeO (wire_packetReader_packet.f k a0 a1 a2 a3 a4 a5 a6 a7 a8 a9 a10 b0 b1 b2) (wire_packetReader_packet.f (k + 1) a0 a1 a2 a3 a4 a5 a6 a7 a8 a9 a10 b0 b1 b2) := by
  intro a0 a1 a2 a3 a4 a5 a6 a7 a8 a9 a10 b0 b1 b2 k
  unfold wire_packetReader_packet.f wire_packetReader_packet.pv wire_packetReader_packet.pm
  exact LeO.bind (wire_reader_number.mono _ _ _ _) (fun _ => LeO.bind (conf_Rounds.mono _ _ _ _ _ _ _ _ _ _ _ _) (fun _ => LeO.bind (wire_reader_digits.mono _ _ _ _ _) (fun _ => LeO.bind (LeO.ite (LeO.refl _) (LeO.bind (wire_reader_number.mono _ _ _ _) (fun _ => LeO.bind (conf_Bits.mono _ _ _ _ _ _ _ _ _ _ _ _) (fun _ => LeO.bind (wire_reader_digits.mono _ _ _ _ _) (fun _ => LeO.refl _)))))
    (fun _ => LeO.bind (LeO.ite (LeO.refl _) (LeO.bind (wire_reader_number.mono _ _ _ _) (fun _ => LeO.bind (wire_reader_number.mono _ _ _ _) (fun _ => LeO.bind (wire_reader_number.mono _ _ _ _) (fun _ => LeO.bind (LeO.refl _) (fun _ => LeO.refl _)))))) (fun _ => LeO.refl _)))))
def PS (C : List Value) (w0 w W : World) (g gr gp : Nat) (s : ByteArray) (a : Int) (b : Bool) (v : ByteArray) (ex : Int) (vec : ByteArray) (slot cyc : Int) (tx : ByteArray) : Prop := IsB C w0 W g s a b ∧ Below w0.heap.size w0 W ∧ KeepBut w W g none ∧ W.heap[gp]? = some (.cells #[.string v, .int .i64 ex, .string vec, .int .i64 slot, .int .i64 cyc, .string tx] 26 (0, 0)) ∧ W.heap[gr]? = some (.cells #[.string ⟨#[]⟩, .int .i64 0, .string ⟨#[]⟩, .int .i64 0, .int .i64 0, .string ⟨#[]⟩] 26 (0, 0)) ∧ gp ≠ g ∧ gr ≠ g ∧ gr ≠ gp ∧ w.heap.size ≤ gr ∧ w.heap.size ≤ gp ∧ w0.heap.size ≤ w.heap.size
theorem PS.is {C : List Value} {w0 w W : World} {g gr gp : Nat} {s : ByteArray} {a : Int} {b : Bool} {v : ByteArray} {ex : Int} {vec : ByteArray} {slot cyc : Int} {tx : ByteArray} (h : PS C w0 w W g gr gp s a b v ex vec slot cyc tx) : IsB C w0 W g s a b := h.1
theorem PS.bl {C : List Value} {w0 w W : World} {g gr gp : Nat} {s : ByteArray} {a : Int} {b : Bool} {v : ByteArray} {ex : Int} {vec : ByteArray} {slot cyc : Int} {tx : ByteArray} (h : PS C w0 w W g gr gp s a b v ex vec slot cyc tx) : Below w0.heap.size w0 W := h.2.1
theorem PS.call {C : List Value} {w0 w W : World} {g gr gp : Nat} {s : ByteArray} {a : Int} {b : Bool} {v : ByteArray} {ex : Int} {vec : ByteArray} {slot cyc : Int} {tx : ByteArray} {W' : World} {s' : ByteArray} {a' : Int} {b' : Bool} (h : PS C w0 w W g gr gp s a b v ex vec slot cyc tx) (hI : IsB C w0 W' g s' a' b') (hB : Below w0.heap.size w0 W') (hk : KeepBut W W' g none) : PS C w0 w W' g gr gp s' a' b' v ex vec slot cyc tx := by
  obtain ⟨h1, h2, h3, h4, h5, h6, h7, h8⟩ := h
  exact ⟨hI, hB, KeepBut.trans h3 hk (.inl rfl), (hk.2 _ (blk_lt h4) h6 (by simp)).trans h4, (hk.2 _ (blk_lt h5) h7 (by simp)).trans h5, h6, h7, h8⟩
theorem PS.below {C : List Value} {w0 w W : World} {g gr gp : Nat} {s : ByteArray} {a : Int} {b : Bool} {v : ByteArray} {ex : Int} {vec : ByteArray} {slot cyc : Int} {tx : ByteArray} {W' : World} (h : PS C w0 w W g gr gp s a b v ex vec slot cyc tx) (hb : Below W.heap.size W W') : PS C w0 w W' g gr gp s a b v ex vec slot cyc tx := by
  obtain ⟨h1, h2, h3, h4, h5, h6, h7, h8⟩ := h
  exact ⟨h1.below hb, below_then h2 h2.size hb, KeepBut.trans h3 ⟨hb.size, fun k hk _ _ => hb.block k hk⟩ (.inl rfl), blk_below h4 hb, blk_below h5 hb, h6, h7, h8⟩
theorem PS.setb {C : List Value} {w0 w W : World} {g gr gp : Nat} {s : ByteArray} {a : Int} {b : Bool} {v : ByteArray} {ex : Int} {vec : ByteArray} {slot cyc : Int} {tx : ByteArray} (h : PS C w0 w W g gr gp s a b v ex vec slot cyc tx) (x : Bool) : PS C w0 w (W.setCell ⟨g, 2, none⟩ (.bool x)) g gr gp s a x v ex vec slot cyc tx := by
  obtain ⟨h1, h2, h3, h4, h5, h6, h7, h8⟩ := h
  exact ⟨h1.set_2 x, h2.setCell (p := ⟨g, 2, none⟩) h1.ge _, KeepBut.set_ h3 _ _, (Below.heap_setCell _ _ _ _ h6).trans h4, (Below.heap_setCell _ _ _ _ h7).trans h5, h6, h7, h8⟩
theorem PS.set0 {C : List Value} {w0 w W : World} {g gr gp : Nat} {s : ByteArray} {a : Int} {b : Bool} {v : ByteArray} {ex : Int} {vec : ByteArray} {slot cyc : Int} {tx : ByteArray} (h : PS C w0 w W g gr gp s a b v ex vec slot cyc tx) (x : ByteArray) : PS C w0 w (W.setCell ⟨gp, 0, none⟩ (.string x)) g gr gp s a b x ex vec slot cyc tx := by
  obtain ⟨h1, h2, h3, h4, h5, h6, h7, h8, h9, h10, h11⟩ := h
  exact ⟨h1.far (Ne.symm h6) _, h2.setCell (p := ⟨gp, 0, none⟩) (Nat.le_trans h11 h10) _, ⟨by simpa using h3.1, fun k hk hg hn => (Below.heap_setCell _ _ _ k (by show k ≠ gp; omega)).trans (h3.2 k hk hg hn)⟩, by simpa using blk_set h4 0 (.string x), (Below.heap_setCell _ _ _ _ h8).trans h5, h6, h7, h8, h9, h10, h11⟩
theorem PS.set1 {C : List Value} {w0 w W : World} {g gr gp : Nat} {s : ByteArray} {a : Int} {b : Bool} {v : ByteArray} {ex : Int} {vec : ByteArray} {slot cyc : Int} {tx : ByteArray} (h : PS C w0 w W g gr gp s a b v ex vec slot cyc tx) (x : Int) : PS C w0 w (W.setCell ⟨gp, 1, none⟩ (.int .i64 x)) g gr gp s a b v x vec slot cyc tx := by
  obtain ⟨h1, h2, h3, h4, h5, h6, h7, h8, h9, h10, h11⟩ := h
  exact ⟨h1.far (Ne.symm h6) _, h2.setCell (p := ⟨gp, 1, none⟩) (Nat.le_trans h11 h10) _, ⟨by simpa using h3.1, fun k hk hg hn => (Below.heap_setCell _ _ _ k (by show k ≠ gp; omega)).trans (h3.2 k hk hg hn)⟩, by simpa using blk_set h4 1 (.int .i64 x), (Below.heap_setCell _ _ _ _ h8).trans h5, h6, h7, h8, h9, h10, h11⟩
theorem PS.set2 {C : List Value} {w0 w W : World} {g gr gp : Nat} {s : ByteArray} {a : Int} {b : Bool} {v : ByteArray} {ex : Int} {vec : ByteArray} {slot cyc : Int} {tx : ByteArray} (h : PS C w0 w W g gr gp s a b v ex vec slot cyc tx) (x : ByteArray) : PS C w0 w (W.setCell ⟨gp, 2, none⟩ (.string x)) g gr gp s a b v ex x slot cyc tx := by
  obtain ⟨h1, h2, h3, h4, h5, h6, h7, h8, h9, h10, h11⟩ := h
  exact ⟨h1.far (Ne.symm h6) _, h2.setCell (p := ⟨gp, 2, none⟩) (Nat.le_trans h11 h10) _, ⟨by simpa using h3.1, fun k hk hg hn => (Below.heap_setCell _ _ _ k (by show k ≠ gp; omega)).trans (h3.2 k hk hg hn)⟩, by simpa using blk_set h4 2 (.string x), (Below.heap_setCell _ _ _ _ h8).trans h5, h6, h7, h8, h9, h10, h11⟩
theorem PS.set3 {C : List Value} {w0 w W : World} {g gr gp : Nat} {s : ByteArray} {a : Int} {b : Bool} {v : ByteArray} {ex : Int} {vec : ByteArray} {slot cyc : Int} {tx : ByteArray} (h : PS C w0 w W g gr gp s a b v ex vec slot cyc tx) (x : Int) : PS C w0 w (W.setCell ⟨gp, 3, none⟩ (.int .i64 x)) g gr gp s a b v ex vec x cyc tx := by
  obtain ⟨h1, h2, h3, h4, h5, h6, h7, h8, h9, h10, h11⟩ := h
  exact ⟨h1.far (Ne.symm h6) _, h2.setCell (p := ⟨gp, 3, none⟩) (Nat.le_trans h11 h10) _, ⟨by simpa using h3.1, fun k hk hg hn => (Below.heap_setCell _ _ _ k (by show k ≠ gp; omega)).trans (h3.2 k hk hg hn)⟩, by simpa using blk_set h4 3 (.int .i64 x), (Below.heap_setCell _ _ _ _ h8).trans h5, h6, h7, h8, h9, h10, h11⟩
theorem PS.set4 {C : List Value} {w0 w W : World} {g gr gp : Nat} {s : ByteArray} {a : Int} {b : Bool} {v : ByteArray} {ex : Int} {vec : ByteArray} {slot cyc : Int} {tx : ByteArray} (h : PS C w0 w W g gr gp s a b v ex vec slot cyc tx) (x : Int) : PS C w0 w (W.setCell ⟨gp, 4, none⟩ (.int .i64 x)) g gr gp s a b v ex vec slot x tx := by
  obtain ⟨h1, h2, h3, h4, h5, h6, h7, h8, h9, h10, h11⟩ := h
  exact ⟨h1.far (Ne.symm h6) _, h2.setCell (p := ⟨gp, 4, none⟩) (Nat.le_trans h11 h10) _, ⟨by simpa using h3.1, fun k hk hg hn => (Below.heap_setCell _ _ _ k (by show k ≠ gp; omega)).trans (h3.2 k hk hg hn)⟩, by simpa using blk_set h4 4 (.int .i64 x), (Below.heap_setCell _ _ _ _ h8).trans h5, h6, h7, h8, h9, h10, h11⟩
theorem PS.set5 {C : List Value} {w0 w W : World} {g gr gp : Nat} {s : ByteArray} {a : Int} {b : Bool} {v : ByteArray} {ex : Int} {vec : ByteArray} {slot cyc : Int} {tx : ByteArray} (h : PS C w0 w W g gr gp s a b v ex vec slot cyc tx) (x : ByteArray) : PS C w0 w (W.setCell ⟨gp, 5, none⟩ (.string x)) g gr gp s a b v ex vec slot cyc x := by
  obtain ⟨h1, h2, h3, h4, h5, h6, h7, h8, h9, h10, h11⟩ := h
  exact ⟨h1.far (Ne.symm h6) _, h2.setCell (p := ⟨gp, 5, none⟩) (Nat.le_trans h11 h10) _, ⟨by simpa using h3.1, fun k hk hg hn => (Below.heap_setCell _ _ _ k (by show k ≠ gp; omega)).trans (h3.2 k hk hg hn)⟩, by simpa using blk_set h4 5 (.string x), (Below.heap_setCell _ _ _ _ h8).trans h5, h6, h7, h8, h9, h10, h11⟩
theorem PS.pc {C : List Value} {w0 w W : World} {g gr gp : Nat} {s : ByteArray} {a : Int} {b : Bool} {v : ByteArray} {ex : Int} {vec : ByteArray} {slot cyc : Int} {tx : ByteArray} (h : PS C w0 w W g gr gp s a b v ex vec slot cyc tx) (i : Nat) : W.cell? ⟨gp, i, none⟩ = (#[.string v, .int .i64 ex, .string vec, .int .i64 slot, .int .i64 cyc, .string tx] : Array Value)[i]? ∧ W.frozen? ⟨gp, i, none⟩ = false := ⟨blk_cell h.2.2.2.1 i, blk_frozen h.2.2.2.1 i⟩
theorem PS.gc {C : List Value} {w0 w W : World} {g gr gp : Nat} {s : ByteArray} {a : Int} {b : Bool} {v : ByteArray} {ex : Int} {vec : ByteArray} {slot cyc : Int} {tx : ByteArray} (h : PS C w0 w W g gr gp s a b v ex vec slot cyc tx) (i : Nat) : W.cell? ⟨gr, i, none⟩ = (#[.string ⟨#[]⟩, .int .i64 0, .string ⟨#[]⟩, .int .i64 0, .int .i64 0, .string ⟨#[]⟩] : Array Value)[i]? ∧ W.frozen? ⟨gr, i, none⟩ = false := ⟨blk_cell h.2.2.2.2.1 i, blk_frozen h.2.2.2.2.1 i⟩
theorem PS.out_ {C : List Value} {w0 w W : World} {g gr gp : Nat} {s : ByteArray} {a : Int} {b : Bool} {v : ByteArray} {ex : Int} {vec : ByteArray} {slot cyc : Int} {tx : ByteArray} (h : PS C w0 w W g gr gp s a b v ex vec slot cyc tx) : ((((((W.setCell ⟨gr, 0, none⟩ (.string v)).setCell ⟨gr, 1, none⟩ (.int .i64 ex)).setCell ⟨gr, 2, none⟩ (.string vec)).setCell ⟨gr, 3, none⟩ (.int .i64 slot)).setCell ⟨gr, 4, none⟩ (.int .i64 cyc)).setCell ⟨gr, 5, none⟩ (.string tx)).heap[gr]? = some (.cells #[.string v, .int .i64 ex, .string vec, .int .i64 slot, .int .i64 cyc, .string tx] 26 (0, 0)) ∧
    IsB C w0 ((((((W.setCell ⟨gr, 0, none⟩ (.string v)).setCell ⟨gr, 1, none⟩ (.int .i64 ex)).setCell ⟨gr, 2, none⟩ (.string vec)).setCell ⟨gr, 3, none⟩ (.int .i64 slot)).setCell ⟨gr, 4, none⟩ (.int .i64 cyc)).setCell ⟨gr, 5, none⟩ (.string tx)) g s a b ∧
    Below w0.heap.size w0 ((((((W.setCell ⟨gr, 0, none⟩ (.string v)).setCell ⟨gr, 1, none⟩ (.int .i64 ex)).setCell ⟨gr, 2, none⟩ (.string vec)).setCell ⟨gr, 3, none⟩ (.int .i64 slot)).setCell ⟨gr, 4, none⟩ (.int .i64 cyc)).setCell ⟨gr, 5, none⟩ (.string tx)) ∧
    KeepBut w ((((((W.setCell ⟨gr, 0, none⟩ (.string v)).setCell ⟨gr, 1, none⟩ (.int .i64 ex)).setCell ⟨gr, 2, none⟩ (.string vec)).setCell ⟨gr, 3, none⟩ (.int .i64 slot)).setCell ⟨gr, 4, none⟩ (.int .i64 cyc)).setCell ⟨gr, 5, none⟩ (.string tx)) g none := by
  obtain ⟨h1, h2, h3, h4, h5, h6, h7, h8, h9, h10, h11⟩ := h
  have q0 := blk_set h5 0 (.string v)
  have q1 := blk_set q0 1 (.int .i64 ex)
  have q2 := blk_set q1 2 (.string vec)
  have q3 := blk_set q2 3 (.int .i64 slot)
  have q4 := blk_set q3 4 (.int .i64 cyc)
  have q5 := blk_set q4 5 (.string tx)
  have hne : g ≠ gr := Ne.symm h7
  have hle : w0.heap.size ≤ gr := Nat.le_trans h11 h9
  refine ⟨by simpa using q5, ((((((h1.far hne _).far hne _).far hne _).far hne _).far hne _).far hne _), ((((((h2.setCell (p := ⟨gr, 0, none⟩) hle _).setCell (p := ⟨gr, 1, none⟩) hle _).setCell (p := ⟨gr, 2, none⟩) hle _).setCell (p := ⟨gr, 3, none⟩) hle _).setCell (p := ⟨gr, 4, none⟩) hle _).setCell (p := ⟨gr, 5, none⟩) hle _), ⟨by simpa using h3.1, fun k hk hg hn => ?_⟩⟩
  have hkr : k ≠ gr := by omega
  simp only [Below.heap_setCell _ _ _ k (show k ≠ (⟨gr, 0, none⟩ : Addr).block from hkr), Below.heap_setCell _ _ _ k (show k ≠ (⟨gr, 1, none⟩ : Addr).block from hkr), Below.heap_setCell _ _ _ k (show k ≠ (⟨gr, 2, none⟩ : Addr).block from hkr), Below.heap_setCell _ _ _ k (show k ≠ (⟨gr, 3, none⟩ : Addr).block from hkr), Below.heap_setCell _ _ _ k (show k ≠ (⟨gr, 4, none⟩ : Addr).block from hkr), Below.heap_setCell _ _ _ k (show k ≠ (⟨gr, 5, none⟩ : Addr).block from hkr)]
  exact h3.2 k hk hg hn
theorem PS.rc {C : List Value} {w0 w W : World} {g gr gp : Nat} {s : ByteArray} {a : Int} {b : Bool} {v : ByteArray} {ex : Int} {vec : ByteArray} {slot cyc : Int} {tx : ByteArray} (h : PS C w0 w W g gr gp s a b v ex vec slot cyc tx) : W.cell? ⟨g, 0, none⟩ = some (.string s) ∧ W.cell? ⟨g, 1, none⟩ = some (.int .i64 a) ∧ W.cell? ⟨g, 2, none⟩ = some (.bool b) ∧ W.frozen? ⟨g, 2, none⟩ = false := ⟨cellB_0 h.1.1, cellB_1 h.1.1, cellB_2 h.1.1, blk_frozen h.1.1 2⟩
theorem PS.cc {C : List Value} {w0 w W : World} {g gr gp : Nat} {s : ByteArray} {a : Int} {b : Bool} {v : ByteArray} {ex : Int} {vec : ByteArray} {slot cyc : Int} {tx : ByteArray} (h : PS C w0 w W g gr gp s a b v ex vec slot cyc tx) (i : Nat) {u : Value} (hu : C[i]? = some u) : W.cell? ⟨g, i + 3, none⟩ = some u := by
  refine (blk_cell h.1.1 (i + 3)).trans ?_
  simpa using hu
theorem wire_packetReader_packet.calls (k : Nat) (a0_0 a0_1 a0_2 a0_3 a0_4 a0_5 a0_6 a0_7 a0_8 a0_9 : Int) (A0_10 : Option Addr) (c0_10 : Nat) (l0_10 : List Int) (s : ByteArray) (a : Int) (b : Bool) (r1 : ByteArray) (r2 : Int) (r3 : ByteArray) (r4 r5 : Int) (r6 : ByteArray) (r7 : ByteArray) (r8 : Int) (r9 : Bool) (w0 w : World) {g : Nat} (hI : IsB [Value.int .i64 a0_0, Value.int .i64 a0_1, Value.int .i64 a0_2, Value.int .i64 a0_3, Value.int .i64 a0_4, Value.int .i64 a0_5, Value.int .i64 a0_6, Value.int .i64 a0_7, Value.int .i64 a0_8, Value.int .i64 a0_9, Value.slice A0_10 l0_10.length c0_10] w0 w g s a b) (hB : Below w0.heap.size w0 w)
    (hr0_10 : Kd.C (Kd.int .i64) w0 A0_10 l0_10.length l0_10) (hc0_10 : l0_10.length ≤ c0_10) (h : wire_packetReader_packet.f k a0_0 a0_1 a0_2 a0_3 a0_4 a0_5 a0_6 a0_7 a0_8 a0_9 l0_10 s a b = some (r1, r2, r3, r4, r5, r6, r7, r8, r9)) :
    Calls Try.prog 56 #[.pointer (some ⟨g, 0, none⟩)] w fun e w' => e = .returned (.agg #[.string r1, .int .i64 r2, .string r3, .int .i64 r4, .int .i64 r5, .string r6]) ∧ IsB [Value.int .i64 a0_0, Value.int .i64 a0_1, Value.int .i64 a0_2, Value.int .i64 a0_3, Value.int .i64 a0_4, Value.int .i64 a0_5, Value.int .i64 a0_6, Value.int .i64 a0_7, Value.int .i64 a0_8, Value.int .i64 a0_9, Value.slice A0_10 l0_10.length c0_10] w0 w' g r7 r8 r9 ∧ Below w0.heap.size w0 w' ∧ KeepBut w w' g none := by
  have hu24 := Try.underlying24
  have hu26 := Try.underlying26
  have HR := Sd.mk hr0_10
  have HC := Sd.mk hc0_10
  have hglt : g < w.heap.size := hI.lt
  have S0 : Sd (PS [Value.int .i64 a0_0, Value.int .i64 a0_1, Value.int .i64 a0_2, Value.int .i64 a0_3, Value.int .i64 a0_4, Value.int .i64 a0_5, Value.int .i64 a0_6, Value.int .i64 a0_7, Value.int .i64 a0_8, Value.int .i64 a0_9, Value.slice A0_10 l0_10.length c0_10] w0 ((w)) ((w.alloc (.cells #[.string ⟨#[]⟩, .int .i64 0, .string ⟨#[]⟩, .int .i64 0, .int .i64 0, .string ⟨#[]⟩] 26)).alloc (.cells #[.string ⟨#[]⟩, .int .i64 0, .string ⟨#[]⟩, .int .i64 0, .int .i64 0, .string ⟨#[]⟩] 26)) g w.heap.size (w.heap.size + 1) s a b ⟨#[]⟩ 0 ⟨#[]⟩ 0 0 ⟨#[]⟩) := ⟨(hI.alloc _).alloc _, below_alloc (below_alloc hB _) _, ⟨by simp; omega, fun k hk _ _ => (below_alloc (below_alloc (Below.refl _ w) _) _).block k hk⟩, by have h9 := blk_new (w.alloc (.cells #[.string ⟨#[]⟩, .int .i64 0, .string ⟨#[]⟩, .int .i64 0, .int .i64 0, .string ⟨#[]⟩] 26)) (.cells #[.string ⟨#[]⟩, .int .i64 0, .string ⟨#[]⟩, .int .i64 0, .int .i64 0, .string ⟨#[]⟩] 26); rwa [World.size_alloc] at h9, blk_alloc (blk_new w _) _, by omega, by omega, by omega, Nat.le_refl _, Nat.le_succ _, hB.size⟩
  clear hr0_10 hc0_10 hI hB
  unfold wire_packetReader_packet.f at h
  obtain ⟨⟨t, s1, a1, b1⟩, h1, h⟩ := Option.bind_eq_some_iff.mp h
  obtain ⟨n, h2, h⟩ := Option.bind_eq_some_iff.mp h
  obtain ⟨⟨v, s2, a2, b2⟩, h3, h⟩ := Option.bind_eq_some_iff.mp h
  obtain ⟨⟨ex, vec, s3, a3, b3⟩, h4, h⟩ := Option.bind_eq_some_iff.mp h
  obtain ⟨⟨slot, cyc, tx, s4, a4, b4⟩, h5, h⟩ := Option.bind_eq_some_iff.mp h
  simp only [Option.some.injEq, Prod.mk.injEq] at h
  obtain ⟨rfl, rfl, rfl, rfl, rfl, rfl, rfl, rfl, rfl⟩ := h
  obtain ⟨b1', hb1'⟩ : ∃ b1', (b1 || (Go.bits .andNot .i64 t 3 != 64)) = b1' := ⟨_, rfl⟩
  have A1 : Sd (wire_reader_number.f k s a b = some (t, s1, a1, b1)) := ⟨h1⟩
  have A2 := Sd.mk h2
  have A3 : Sd (wire_reader_digits.f k s1 a1 b1' n = some (v, s2, a2, b2)) := ⟨by rw [← hb1']; exact h3⟩
  have A4 : Sd (wire_packetReader_packet.pv k a0_0 a0_1 a0_2 a0_3 a0_4 a0_5 a0_6 a0_7 a0_8 a0_9 l0_10 t s2 a2 b2 = some (ex, vec, s3, a3, b3)) := ⟨h4⟩
  have A5 : Sd (wire_packetReader_packet.pm k t s3 a3 b3 = some (slot, cyc, tx, s4, a4, b4)) := ⟨h5⟩
  have HB1 := Sd.mk hb1'
  clear h1 h2 h3 h4 h5 hb1' h
  go_enter Try.func56, Try.ntmps56
  go_upto_region 3 with (first | (go_at_call 77; (with_reducible refine (wire_reader_number.calls (C := [Value.int .i64 a0_0, Value.int .i64 a0_1, Value.int .i64 a0_2, Value.int .i64 a0_3, Value.int .i64 a0_4, Value.int .i64 a0_5, Value.int .i64 a0_6, Value.int .i64 a0_7, Value.int .i64 a0_8, Value.int .i64 a0_9, Value.slice A0_10 l0_10.length c0_10]) k g s a b t s1 a1 b1 w0 _ ?side1 ?side2 A1.out).mono ?_); (case side1 => exact S0.out.1); (case side2 => exact S0.out.2.1); rintro e' w1 ⟨rfl, hi, hb, hk⟩; have S1 := Sd.mk (PS.call S0.out hi hb hk); clear hi hb hk))
  go_cut [22] (fun v22 wc => Sd (PS [Value.int .i64 a0_0, Value.int .i64 a0_1, Value.int .i64 a0_2, Value.int .i64 a0_3, Value.int .i64 a0_4, Value.int .i64 a0_5, Value.int .i64 a0_6, Value.int .i64 a0_7, Value.int .i64 a0_8, Value.int .i64 a0_9, Value.slice A0_10 l0_10.length c0_10] w0 w wc g w.heap.size (w.heap.size + 1) s1 a1 b1' ⟨#[]⟩ 0 ⟨#[]⟩ 0 0 ⟨#[]⟩))
  case first =>
    have ⟨rc0, rc1, rc2, rf2⟩ := PS.rc S1.out
    have pc0 : w1.cell? ⟨w.heap.size + 1, 0, none⟩ = some (.string (⟨#[]⟩ : ByteArray)) := (PS.pc S1.out 0).1
    have pc1 : w1.cell? ⟨w.heap.size + 1, 1, none⟩ = some (.int .i64 0) := (PS.pc S1.out 1).1
    have pc2 : w1.cell? ⟨w.heap.size + 1, 2, none⟩ = some (.string (⟨#[]⟩ : ByteArray)) := (PS.pc S1.out 2).1
    have pc3 : w1.cell? ⟨w.heap.size + 1, 3, none⟩ = some (.int .i64 0) := (PS.pc S1.out 3).1
    have pc4 : w1.cell? ⟨w.heap.size + 1, 4, none⟩ = some (.int .i64 0) := (PS.pc S1.out 4).1
    have pc5 : w1.cell? ⟨w.heap.size + 1, 5, none⟩ = some (.string (⟨#[]⟩ : ByteArray)) := (PS.pc S1.out 5).1
    rcases hb : b1 with _ | _
    · have e9 : b1' = (Go.bits .andNot .i64 t 3 != 64) := by rw [← HB1.out, hb]; rfl
      rw [hb] at rc2 S1
      have E9 := Sd.mk e9
      clear e9 hb
      go_wp2_with fail
      go_meet
      exact ⟨by rw [E9.out]; exact PS.setb S1.out _⟩
    · have e9 : b1' = true := by rw [← HB1.out, hb]; rfl
      rw [hb] at rc2 S1
      have E9 := Sd.mk e9
      clear e9 hb
      go_wp2_with fail
      go_meet
      exact ⟨by rw [E9.out]; exact PS.setb S1.out _⟩
  case rest =>
    have S2 := hcut
    clear hcut
    have ⟨rc0, rc1, rc2, rf2⟩ := PS.rc S2.out
    have pc0 : wc.cell? ⟨w.heap.size + 1, 0, none⟩ = some (.string (⟨#[]⟩ : ByteArray)) := (PS.pc S2.out 0).1
    have pc1 : wc.cell? ⟨w.heap.size + 1, 1, none⟩ = some (.int .i64 0) := (PS.pc S2.out 1).1
    have pc2 : wc.cell? ⟨w.heap.size + 1, 2, none⟩ = some (.string (⟨#[]⟩ : ByteArray)) := (PS.pc S2.out 2).1
    have pc3 : wc.cell? ⟨w.heap.size + 1, 3, none⟩ = some (.int .i64 0) := (PS.pc S2.out 3).1
    have pc4 : wc.cell? ⟨w.heap.size + 1, 4, none⟩ = some (.int .i64 0) := (PS.pc S2.out 4).1
    have pc5 : wc.cell? ⟨w.heap.size + 1, 5, none⟩ = some (.string (⟨#[]⟩ : ByteArray)) := (PS.pc S2.out 5).1
    have cc0 : wc.cell? ⟨g, 3, none⟩ = some (.int .i64 a0_0) := PS.cc S2.out 0 rfl
    have cc1 : wc.cell? ⟨g, 4, none⟩ = some (.int .i64 a0_1) := PS.cc S2.out 1 rfl
    have cc2 : wc.cell? ⟨g, 5, none⟩ = some (.int .i64 a0_2) := PS.cc S2.out 2 rfl
    have cc3 : wc.cell? ⟨g, 6, none⟩ = some (.int .i64 a0_3) := PS.cc S2.out 3 rfl
    have cc4 : wc.cell? ⟨g, 7, none⟩ = some (.int .i64 a0_4) := PS.cc S2.out 4 rfl
    have cc5 : wc.cell? ⟨g, 8, none⟩ = some (.int .i64 a0_5) := PS.cc S2.out 5 rfl
    have cc6 : wc.cell? ⟨g, 9, none⟩ = some (.int .i64 a0_6) := PS.cc S2.out 6 rfl
    have cc7 : wc.cell? ⟨g, 10, none⟩ = some (.int .i64 a0_7) := PS.cc S2.out 7 rfl
    have cc8 : wc.cell? ⟨g, 11, none⟩ = some (.int .i64 a0_8) := PS.cc S2.out 8 rfl
    have cc9 : wc.cell? ⟨g, 12, none⟩ = some (.int .i64 a0_9) := PS.cc S2.out 9 rfl
    have cc10 : wc.cell? ⟨g, 13, none⟩ = some (.slice A0_10 l0_10.length c0_10) := PS.cc S2.out 10 rfl
    go_wp2_with fail
    refine start_ (n := 11) (S := fun w' => w'.cell? ⟨g, 3, none⟩ = some (.int .i64 a0_0) ∧ w'.cell? ⟨g, 4, none⟩ = some (.int .i64 a0_1) ∧ w'.cell? ⟨g, 5, none⟩ = some (.int .i64 a0_2) ∧ w'.cell? ⟨g, 6, none⟩ = some (.int .i64 a0_3) ∧ w'.cell? ⟨g, 7, none⟩ = some (.int .i64 a0_4) ∧ w'.cell? ⟨g, 8, none⟩ = some (.int .i64 a0_5) ∧ w'.cell? ⟨g, 9, none⟩ = some (.int .i64 a0_6) ∧ w'.cell? ⟨g, 10, none⟩ = some (.int .i64 a0_7) ∧ w'.cell? ⟨g, 11, none⟩ = some (.int .i64 a0_8) ∧ w'.cell? ⟨g, 12, none⟩ = some (.int .i64 a0_9) ∧ w'.cell? ⟨g, 13, none⟩ = some (.slice A0_10 l0_10.length c0_10)) (ds := [8, 10]) #[false,false,false,false,false,false,false,false,false,false,false] (by kernel_rfl) rfl rfl ⟨cc0, cc1, cc2, cc3, cc4, cc5, cc6, cc7, cc8, cc9, cc10⟩ (fun hHeld => ?_)
    refine pure_ (i := 0) (N := some 23) (v := ?_) (a' := ?_) #[true,false,false,false,false,false,false,false,false,false,false] rfl rfl (by kernel_rfl) (fun _ _ _ h => h) (Or.inl ⟨by rfl, ?_⟩) ?_ ?_
    rotate_left
    · intro w'
      go_simp
      with_reducible rfl
    rotate_left
    · simp only [Act.put, List.setIfInBounds_toArray, List.set_cons_zero, List.set_cons_succ, i64_w, i32_w]
      rfl
    refine pure_ (i := 1) (N := some 24) (v := ?_) (a' := ?_) #[true,true,false,false,false,false,false,false,false,false,false] rfl rfl (by kernel_rfl) (fun _ _ _ h => h) (Or.inl ⟨by rfl, ?_⟩) ?_ ?_
    rotate_left
    · intro w'
      go_simp
      with_reducible rfl
    rotate_left
    · simp only [Act.put, List.setIfInBounds_toArray, List.set_cons_zero, List.set_cons_succ, i64_w, i32_w]
      rfl
    refine pure_ (i := 2) (N := some 25) (v := ?_) (a' := ?_) #[true,true,true,false,false,false,false,false,false,false,false] rfl rfl (by kernel_rfl) (fun _ _ _ h => h) (Or.inl ⟨by rfl, ?_⟩) ?_ ?_
    rotate_left
    · intro w'
      go_simp
      with_reducible rfl
    rotate_left
    · simp only [Act.put, List.setIfInBounds_toArray, List.set_cons_zero, List.set_cons_succ, i64_w, i32_w]
      rfl
    refine pure_ (i := 3) (N := some 26) (v := ?_) (a' := ?_) #[true,true,true,true,false,false,false,false,false,false,false] rfl rfl (by kernel_rfl) (fun _ _ _ h => h) (Or.inl ⟨by rfl, ?_⟩) ?_ ?_
    rotate_left
    · intro w'
      go_simp
      with_reducible rfl
    rotate_left
    · simp only [Act.put, List.setIfInBounds_toArray, List.set_cons_zero, List.set_cons_succ, i64_w, i32_w]
      rfl
    refine pure_ (i := 4) (N := some 27) (v := ?_) (a' := ?_) #[true,true,true,true,true,false,false,false,false,false,false] rfl rfl (by kernel_rfl) (fun _ _ _ h => h) (Or.inl ⟨by rfl, ?_⟩) ?_ ?_
    rotate_left
    · intro w'
      go_simp
      with_reducible rfl
    rotate_left
    · simp only [Act.put, List.setIfInBounds_toArray, List.set_cons_zero, List.set_cons_succ, i64_w, i32_w]
      rfl
    refine pure_ (i := 5) (N := some 28) (v := ?_) (a' := ?_) #[true,true,true,true,true,true,false,false,false,false,false] rfl rfl (by kernel_rfl) (fun _ _ _ h => h) (Or.inl ⟨by rfl, ?_⟩) ?_ ?_
    rotate_left
    · intro w'
      go_simp
      with_reducible rfl
    rotate_left
    · simp only [Act.put, List.setIfInBounds_toArray, List.set_cons_zero, List.set_cons_succ, i64_w, i32_w]
      rfl
    refine take_ (i := 6) (N := some 29) (v := ?_) (a' := ?_) #[true,true,true,true,true,true,true,false,false,false,false] rfl rfl (by kernel_rfl) (fun _ _ _ h => h) (Or.inl ⟨by rfl, ?_⟩) hHeld ?_ ?_
    rotate_left
    · rintro w' ⟨s0, s1, s2, s3, s4, s5, s6, s7, s8, s9, s10⟩
      go_simp
      with_reducible rfl
    rotate_left
    · simp only [Act.put, List.setIfInBounds_toArray, List.set_cons_zero, List.set_cons_succ, i64_w, i32_w]
      rfl
    refine one_ (i := 7) (N := some 30) #[true,true,true,true,true,true,true,true,false,false,false] rfl rfl (by kernel_rfl) (by decide) (fun K hK => ?_)
    refine goes_ Try.func36 (by kernel_rfl) rfl #[.agg #[.int .i64 a0_0, .int .i64 a0_1, .int .i64 a0_2, .int .i64 a0_3, .int .i64 a0_4, .int .i64 a0_5, .int .i64 a0_6, .int .i64 a0_7, .int .i64 a0_8, .int .i64 a0_9, .slice A0_10 l0_10.length c0_10]] (by rfl) rfl rfl (by simp only [List.map_toArray, List.map_cons, List.map_nil]; rfl) ?_
    with_reducible refine (conf_Rounds.calls k a0_0 a0_1 a0_2 a0_3 a0_4 a0_5 a0_6 a0_7 a0_8 a0_9 _ _ l0_10 n _ (Kd.C_below HR.out (below_drew1 (PS.bl S2.out))) HC.out A2.out).mono ?_
    rintro e' wA ⟨rfl, hb⟩
    refine ⟨_, rfl, ?_⟩
    have SA := Sd.mk (PS.below S2.out ((below_drew1 (Below.refl _ wc)).trans hb))
    clear hb
    refine hK.out _ _ ⟨PS.cc SA.out 0 rfl, PS.cc SA.out 1 rfl, PS.cc SA.out 2 rfl, PS.cc SA.out 3 rfl, PS.cc SA.out 4 rfl, PS.cc SA.out 5 rfl, PS.cc SA.out 6 rfl, PS.cc SA.out 7 rfl, PS.cc SA.out 8 rfl, PS.cc SA.out 9 rfl, PS.cc SA.out 10 rfl⟩ (fun hHeld => ?_)
    clear hK K
    refine norm_ (a' := ?_) ?_ ?_
    rotate_left
    · show Act.put _ (some 30) _ = _
      simp only [Act.put, List.setIfInBounds_toArray, List.set_cons_zero, List.set_cons_succ, i64_w, i32_w]
      rfl
    refine last_ (i := 8) (N := some 31) #[true,true,true,true,true,true,true,true,true,false,false] rfl rfl (by kernel_rfl) (by decide) (fun K hK => ?_)
    refine goes_ Try.func78 (by kernel_rfl) rfl #[.pointer (some ⟨g, 0, none⟩), .int .i64 n] (by rfl) rfl rfl (by simp only [List.map_toArray, List.map_cons, List.map_nil]; rfl) ?_
    with_reducible refine (wire_reader_digits.calls (C := [Value.int .i64 a0_0, Value.int .i64 a0_1, Value.int .i64 a0_2, Value.int .i64 a0_3, Value.int .i64 a0_4, Value.int .i64 a0_5, Value.int .i64 a0_6, Value.int .i64 a0_7, Value.int .i64 a0_8, Value.int .i64 a0_9, Value.slice A0_10 l0_10.length c0_10]) k g s1 a1 b1' n v s2 a2 b2 w0 wA (PS.is SA.out) (PS.bl SA.out) A3.out).mono ?_
    rintro e' wB ⟨rfl, hi, hb, hk⟩
    refine ⟨_, rfl, ?_⟩
    have SB := Sd.mk (PS.call SA.out hi hb hk)
    clear hi hb hk
    have pc0 : wB.cell? ⟨w.heap.size + 1, 0, none⟩ = some (.string (⟨#[]⟩ : ByteArray)) := (PS.pc SB.out 0).1
    have pf0 := (PS.pc SB.out 0).2
    refine hK.out _ _ ?_
    clear hK K
    refine norm_ (a' := ?_) ?_ ?_
    rotate_left
    · show Act.put _ (some 31) _ = _
      simp only [Act.put, List.setIfInBounds_toArray, List.set_cons_zero, List.set_cons_succ, i64_w, i32_w]
      rfl
    refine pure_ (i := 9) (N := some 32) (v := ?_) (a' := ?_) #[true,true,true,true,true,true,true,true,true,true,false] rfl rfl (by kernel_rfl) (fun _ _ _ h => h) (Or.inl ⟨by rfl, ?_⟩) ?_ ?_
    rotate_left
    · intro w'
      go_simp
      with_reducible rfl
    rotate_left
    · simp only [Act.put, List.setIfInBounds_toArray, List.set_cons_zero, List.set_cons_succ, i64_w, i32_w]
      rfl
    refine last_ (i := 10) (N := none) #[true,true,true,true,true,true,true,true,true,true,true] rfl rfl (by kernel_rfl) (by decide) (fun K hK => ?_)
    refine skip_ (w1 := ?_) (by rfl) rfl ?_ ?_
    rotate_left
    · go_simp
      rfl
    refine hK.out _ _ ?_
    clear hK K
    refine done_ (by kernel_rfl) ?_
    have S5 := Sd.mk (PS.set0 SB.out v)
    generalize wB.setCell ⟨w.heap.size + 1, 0, none⟩ (.string v) = w5 at S5 ⊢
    clear S2
    try clear cc0 cc1 cc2 cc3 cc4 cc5 cc6 cc7 cc8 cc9 cc10
    try clear rc0 rc1 rc2 rf2 pc0 pc1 pc2 pc3 pc4 pc5
    go_upto_if 35 with (fail)
    go_cut [40] (fun v40 wD => Sd (PS [Value.int .i64 a0_0, Value.int .i64 a0_1, Value.int .i64 a0_2, Value.int .i64 a0_3, Value.int .i64 a0_4, Value.int .i64 a0_5, Value.int .i64 a0_6, Value.int .i64 a0_7, Value.int .i64 a0_8, Value.int .i64 a0_9, Value.slice A0_10 l0_10.length c0_10] w0 w wD g w.heap.size (w.heap.size + 1) s3 a3 b3 v ex vec 0 0 ⟨#[]⟩))
    case first =>
      have hpv := A4.out
      unfold wire_packetReader_packet.pv at hpv
      by_cases ht : Go.bits .and .i64 t 1 = 0
      · rw [if_pos ht] at hpv
        simp only [Option.some.injEq, Prod.mk.injEq] at hpv
        obtain ⟨rfl, rfl, rfl, rfl, rfl⟩ := hpv
        have t1 : (Go.bits .and .i64 t 1 != 0) = false := bne_eq_false_iff_eq.mpr ht
        clear ht
        go_wp2_with fail
        go_meet
        exact S5
      · rw [if_neg ht] at hpv
        obtain ⟨⟨ex', sx, ax, bx⟩, h1, hpv⟩ := Option.bind_eq_some_iff.mp hpv
        obtain ⟨m, h2, hpv⟩ := Option.bind_eq_some_iff.mp hpv
        obtain ⟨⟨vec', sy, ay, by_⟩, h3, hpv⟩ := Option.bind_eq_some_iff.mp hpv
        simp only [Option.some.injEq, Prod.mk.injEq] at hpv
        obtain ⟨rfl, rfl, rfl, rfl, rfl⟩ := hpv
        have t1 : (Go.bits .and .i64 t 1 != 0) = true := bne_iff_ne.mpr ht
        obtain ⟨bx', hbx'⟩ : ∃ bx', (bx || (ex' == 0)) = bx' := ⟨_, rfl⟩
        have D1 : Sd (wire_reader_number.f k s2 a2 b2 = some (ex', sx, ax, bx)) := ⟨h1⟩
        have D2 := Sd.mk h2
        have D3 : Sd (wire_reader_digits.f k sx ax bx' m = some (vec', sy, ay, by_)) := ⟨by rw [← hbx']; exact h3⟩
        have HBX := Sd.mk hbx'
        clear h1 h2 h3 hbx' ht A4
        go_upto_region 7 with (first | (go_at_call 77; (with_reducible refine (wire_reader_number.calls (C := [Value.int .i64 a0_0, Value.int .i64 a0_1, Value.int .i64 a0_2, Value.int .i64 a0_3, Value.int .i64 a0_4, Value.int .i64 a0_5, Value.int .i64 a0_6, Value.int .i64 a0_7, Value.int .i64 a0_8, Value.int .i64 a0_9, Value.slice A0_10 l0_10.length c0_10]) k g s2 a2 b2 ex' sx ax bx w0 _ ?side1 ?side2 D1.out).mono ?_); (case side1 => exact PS.is S5.out); (case side2 => exact PS.bl S5.out); rintro e' w6 ⟨rfl, hi, hb, hk⟩; have S6 := Sd.mk (PS.call S5.out hi hb hk); clear hi hb hk; have pc1 : w6.cell? ⟨w.heap.size + 1, 1, none⟩ = some (.int .i64 0) := (PS.pc S6.out 1).1; have pf1 := (PS.pc S6.out 1).2))
        have S7 := Sd.mk (PS.set1 S6.out ex')
        generalize w6.setCell ⟨w.heap.size + 1, 1, none⟩ (.int .i64 ex') = w7 at S7 ⊢
        try clear pc1 pf1
        have ⟨rc0, rc1, rc2, rf2⟩ := PS.rc S7.out
        have pc0 : w7.cell? ⟨w.heap.size + 1, 0, none⟩ = some (.string v) := (PS.pc S7.out 0).1
        have pc1 : w7.cell? ⟨w.heap.size + 1, 1, none⟩ = some (.int .i64 ex') := (PS.pc S7.out 1).1
        have pc2 : w7.cell? ⟨w.heap.size + 1, 2, none⟩ = some (.string (⟨#[]⟩ : ByteArray)) := (PS.pc S7.out 2).1
        have pc3 : w7.cell? ⟨w.heap.size + 1, 3, none⟩ = some (.int .i64 0) := (PS.pc S7.out 3).1
        have pc4 : w7.cell? ⟨w.heap.size + 1, 4, none⟩ = some (.int .i64 0) := (PS.pc S7.out 4).1
        have pc5 : w7.cell? ⟨w.heap.size + 1, 5, none⟩ = some (.string (⟨#[]⟩ : ByteArray)) := (PS.pc S7.out 5).1
        go_cut [54] (fun v54 wE => Sd (PS [Value.int .i64 a0_0, Value.int .i64 a0_1, Value.int .i64 a0_2, Value.int .i64 a0_3, Value.int .i64 a0_4, Value.int .i64 a0_5, Value.int .i64 a0_6, Value.int .i64 a0_7, Value.int .i64 a0_8, Value.int .i64 a0_9, Value.slice A0_10 l0_10.length c0_10] w0 w wE g w.heap.size (w.heap.size + 1) sx ax bx' v ex' ⟨#[]⟩ 0 0 ⟨#[]⟩))
        case first =>
          rcases hb : bx with _ | _
          · have e9 : bx' = (ex' == 0) := by rw [← HBX.out, hb]; rfl
            rw [hb] at rc2 S7
            have E9 := Sd.mk e9
            clear e9 hb
            go_wp2_with fail
            go_meet
            exact ⟨by rw [E9.out]; exact PS.setb S7.out _⟩
          · have e9 : bx' = true := by rw [← HBX.out, hb]; rfl
            rw [hb] at rc2 S7
            have E9 := Sd.mk e9
            clear e9 hb
            go_wp2_with fail
            go_meet
            exact ⟨by rw [E9.out]; exact PS.setb S7.out _⟩
        case rest =>
          have S8 := hcut
          clear hcut
          have ⟨rc0, rc1, rc2, rf2⟩ := PS.rc S8.out
          have pc0 : wc.cell? ⟨w.heap.size + 1, 0, none⟩ = some (.string v) := (PS.pc S8.out 0).1
          have pc1 : wc.cell? ⟨w.heap.size + 1, 1, none⟩ = some (.int .i64 ex') := (PS.pc S8.out 1).1
          have pc2 : wc.cell? ⟨w.heap.size + 1, 2, none⟩ = some (.string (⟨#[]⟩ : ByteArray)) := (PS.pc S8.out 2).1
          have pc3 : wc.cell? ⟨w.heap.size + 1, 3, none⟩ = some (.int .i64 0) := (PS.pc S8.out 3).1
          have pc4 : wc.cell? ⟨w.heap.size + 1, 4, none⟩ = some (.int .i64 0) := (PS.pc S8.out 4).1
          have pc5 : wc.cell? ⟨w.heap.size + 1, 5, none⟩ = some (.string (⟨#[]⟩ : ByteArray)) := (PS.pc S8.out 5).1
          have cc0 : wc.cell? ⟨g, 3, none⟩ = some (.int .i64 a0_0) := PS.cc S8.out 0 rfl
          have cc1 : wc.cell? ⟨g, 4, none⟩ = some (.int .i64 a0_1) := PS.cc S8.out 1 rfl
          have cc2 : wc.cell? ⟨g, 5, none⟩ = some (.int .i64 a0_2) := PS.cc S8.out 2 rfl
          have cc3 : wc.cell? ⟨g, 6, none⟩ = some (.int .i64 a0_3) := PS.cc S8.out 3 rfl
          have cc4 : wc.cell? ⟨g, 7, none⟩ = some (.int .i64 a0_4) := PS.cc S8.out 4 rfl
          have cc5 : wc.cell? ⟨g, 8, none⟩ = some (.int .i64 a0_5) := PS.cc S8.out 5 rfl
          have cc6 : wc.cell? ⟨g, 9, none⟩ = some (.int .i64 a0_6) := PS.cc S8.out 6 rfl
          have cc7 : wc.cell? ⟨g, 10, none⟩ = some (.int .i64 a0_7) := PS.cc S8.out 7 rfl
          have cc8 : wc.cell? ⟨g, 11, none⟩ = some (.int .i64 a0_8) := PS.cc S8.out 8 rfl
          have cc9 : wc.cell? ⟨g, 12, none⟩ = some (.int .i64 a0_9) := PS.cc S8.out 9 rfl
          have cc10 : wc.cell? ⟨g, 13, none⟩ = some (.slice A0_10 l0_10.length c0_10) := PS.cc S8.out 10 rfl
          go_wp2_with fail
          refine start_ (n := 11) (S := fun w' => w'.cell? ⟨g, 3, none⟩ = some (.int .i64 a0_0) ∧ w'.cell? ⟨g, 4, none⟩ = some (.int .i64 a0_1) ∧ w'.cell? ⟨g, 5, none⟩ = some (.int .i64 a0_2) ∧ w'.cell? ⟨g, 6, none⟩ = some (.int .i64 a0_3) ∧ w'.cell? ⟨g, 7, none⟩ = some (.int .i64 a0_4) ∧ w'.cell? ⟨g, 8, none⟩ = some (.int .i64 a0_5) ∧ w'.cell? ⟨g, 9, none⟩ = some (.int .i64 a0_6) ∧ w'.cell? ⟨g, 10, none⟩ = some (.int .i64 a0_7) ∧ w'.cell? ⟨g, 11, none⟩ = some (.int .i64 a0_8) ∧ w'.cell? ⟨g, 12, none⟩ = some (.int .i64 a0_9) ∧ w'.cell? ⟨g, 13, none⟩ = some (.slice A0_10 l0_10.length c0_10)) (ds := [8, 10]) #[false,false,false,false,false,false,false,false,false,false,false] (by kernel_rfl) rfl rfl ⟨cc0, cc1, cc2, cc3, cc4, cc5, cc6, cc7, cc8, cc9, cc10⟩ (fun hHeld => ?_)
          refine pure_ (i := 0) (N := some 55) (v := ?_) (a' := ?_) #[true,false,false,false,false,false,false,false,false,false,false] rfl rfl (by kernel_rfl) (fun _ _ _ h => h) (Or.inl ⟨by rfl, ?_⟩) ?_ ?_
          rotate_left
          · intro w'
            go_simp
            with_reducible rfl
          rotate_left
          · simp only [Act.put, List.setIfInBounds_toArray, List.set_cons_zero, List.set_cons_succ, i64_w, i32_w]
            rfl
          refine pure_ (i := 1) (N := some 56) (v := ?_) (a' := ?_) #[true,true,false,false,false,false,false,false,false,false,false] rfl rfl (by kernel_rfl) (fun _ _ _ h => h) (Or.inl ⟨by rfl, ?_⟩) ?_ ?_
          rotate_left
          · intro w'
            go_simp
            with_reducible rfl
          rotate_left
          · simp only [Act.put, List.setIfInBounds_toArray, List.set_cons_zero, List.set_cons_succ, i64_w, i32_w]
            rfl
          refine pure_ (i := 2) (N := some 57) (v := ?_) (a' := ?_) #[true,true,true,false,false,false,false,false,false,false,false] rfl rfl (by kernel_rfl) (fun _ _ _ h => h) (Or.inl ⟨by rfl, ?_⟩) ?_ ?_
          rotate_left
          · intro w'
            go_simp
            with_reducible rfl
          rotate_left
          · simp only [Act.put, List.setIfInBounds_toArray, List.set_cons_zero, List.set_cons_succ, i64_w, i32_w]
            rfl
          refine pure_ (i := 3) (N := some 58) (v := ?_) (a' := ?_) #[true,true,true,true,false,false,false,false,false,false,false] rfl rfl (by kernel_rfl) (fun _ _ _ h => h) (Or.inl ⟨by rfl, ?_⟩) ?_ ?_
          rotate_left
          · intro w'
            go_simp
            with_reducible rfl
          rotate_left
          · simp only [Act.put, List.setIfInBounds_toArray, List.set_cons_zero, List.set_cons_succ, i64_w, i32_w]
            rfl
          refine pure_ (i := 4) (N := some 59) (v := ?_) (a' := ?_) #[true,true,true,true,true,false,false,false,false,false,false] rfl rfl (by kernel_rfl) (fun _ _ _ h => h) (Or.inl ⟨by rfl, ?_⟩) ?_ ?_
          rotate_left
          · intro w'
            go_simp
            with_reducible rfl
          rotate_left
          · simp only [Act.put, List.setIfInBounds_toArray, List.set_cons_zero, List.set_cons_succ, i64_w, i32_w]
            rfl
          refine pure_ (i := 5) (N := some 60) (v := ?_) (a' := ?_) #[true,true,true,true,true,true,false,false,false,false,false] rfl rfl (by kernel_rfl) (fun _ _ _ h => h) (Or.inl ⟨by rfl, ?_⟩) ?_ ?_
          rotate_left
          · intro w'
            go_simp
            with_reducible rfl
          rotate_left
          · simp only [Act.put, List.setIfInBounds_toArray, List.set_cons_zero, List.set_cons_succ, i64_w, i32_w]
            rfl
          refine take_ (i := 6) (N := some 61) (v := ?_) (a' := ?_) #[true,true,true,true,true,true,true,false,false,false,false] rfl rfl (by kernel_rfl) (fun _ _ _ h => h) (Or.inl ⟨by rfl, ?_⟩) hHeld ?_ ?_
          rotate_left
          · rintro w' ⟨s0, s1, s2, s3, s4, s5, s6, s7, s8, s9, s10⟩
            go_simp
            with_reducible rfl
          rotate_left
          · simp only [Act.put, List.setIfInBounds_toArray, List.set_cons_zero, List.set_cons_succ, i64_w, i32_w]
            rfl
          refine one_ (i := 7) (N := some 62) #[true,true,true,true,true,true,true,true,false,false,false] rfl rfl (by kernel_rfl) (by decide) (fun K hK => ?_)
          refine goes_ Try.func63 (by kernel_rfl) rfl #[.agg #[.int .i64 a0_0, .int .i64 a0_1, .int .i64 a0_2, .int .i64 a0_3, .int .i64 a0_4, .int .i64 a0_5, .int .i64 a0_6, .int .i64 a0_7, .int .i64 a0_8, .int .i64 a0_9, .slice A0_10 l0_10.length c0_10]] (by rfl) rfl rfl (by simp only [List.map_toArray, List.map_cons, List.map_nil]; rfl) ?_
          with_reducible refine (conf_Bits.calls k a0_0 a0_1 a0_2 a0_3 a0_4 a0_5 a0_6 a0_7 a0_8 a0_9 _ _ l0_10 m _ (Kd.C_below HR.out (below_drew1 (PS.bl S8.out))) HC.out D2.out).mono ?_
          rintro e' wA ⟨rfl, hb⟩
          refine ⟨_, rfl, ?_⟩
          have SA := Sd.mk (PS.below S8.out ((below_drew1 (Below.refl _ wc)).trans hb))
          clear hb
          refine hK.out _ _ ⟨PS.cc SA.out 0 rfl, PS.cc SA.out 1 rfl, PS.cc SA.out 2 rfl, PS.cc SA.out 3 rfl, PS.cc SA.out 4 rfl, PS.cc SA.out 5 rfl, PS.cc SA.out 6 rfl, PS.cc SA.out 7 rfl, PS.cc SA.out 8 rfl, PS.cc SA.out 9 rfl, PS.cc SA.out 10 rfl⟩ (fun hHeld => ?_)
          clear hK K
          refine norm_ (a' := ?_) ?_ ?_
          rotate_left
          · show Act.put _ (some 62) _ = _
            simp only [Act.put, List.setIfInBounds_toArray, List.set_cons_zero, List.set_cons_succ, i64_w, i32_w]
            rfl
          refine last_ (i := 8) (N := some 63) #[true,true,true,true,true,true,true,true,true,false,false] rfl rfl (by kernel_rfl) (by decide) (fun K hK => ?_)
          refine goes_ Try.func78 (by kernel_rfl) rfl #[.pointer (some ⟨g, 0, none⟩), .int .i64 m] (by rfl) rfl rfl (by simp only [List.map_toArray, List.map_cons, List.map_nil]; rfl) ?_
          with_reducible refine (wire_reader_digits.calls (C := [Value.int .i64 a0_0, Value.int .i64 a0_1, Value.int .i64 a0_2, Value.int .i64 a0_3, Value.int .i64 a0_4, Value.int .i64 a0_5, Value.int .i64 a0_6, Value.int .i64 a0_7, Value.int .i64 a0_8, Value.int .i64 a0_9, Value.slice A0_10 l0_10.length c0_10]) k g sx ax bx' m vec' sy ay by_ w0 wA (PS.is SA.out) (PS.bl SA.out) D3.out).mono ?_
          rintro e' wB ⟨rfl, hi, hb, hk⟩
          refine ⟨_, rfl, ?_⟩
          have SB := Sd.mk (PS.call SA.out hi hb hk)
          clear hi hb hk
          have pc2 : wB.cell? ⟨w.heap.size + 1, 2, none⟩ = some (.string (⟨#[]⟩ : ByteArray)) := (PS.pc SB.out 2).1
          have pf2 := (PS.pc SB.out 2).2
          refine hK.out _ _ ?_
          clear hK K
          refine norm_ (a' := ?_) ?_ ?_
          rotate_left
          · show Act.put _ (some 63) _ = _
            simp only [Act.put, List.setIfInBounds_toArray, List.set_cons_zero, List.set_cons_succ, i64_w, i32_w]
            rfl
          refine pure_ (i := 9) (N := some 64) (v := ?_) (a' := ?_) #[true,true,true,true,true,true,true,true,true,true,false] rfl rfl (by kernel_rfl) (fun _ _ _ h => h) (Or.inl ⟨by rfl, ?_⟩) ?_ ?_
          rotate_left
          · intro w'
            go_simp
            with_reducible rfl
          rotate_left
          · simp only [Act.put, List.setIfInBounds_toArray, List.set_cons_zero, List.set_cons_succ, i64_w, i32_w]
            rfl
          refine last_ (i := 10) (N := none) #[true,true,true,true,true,true,true,true,true,true,true] rfl rfl (by kernel_rfl) (by decide) (fun K hK => ?_)
          refine skip_ (w1 := ?_) (by rfl) rfl ?_ ?_
          rotate_left
          · go_simp
            rfl
          refine hK.out _ _ ?_
          clear hK K
          refine done_ (by kernel_rfl) ?_
          go_wp2_with fail
          go_meet
          exact ⟨PS.set2 SB.out vec'⟩
    case rest =>
      have S10 := hcut
      clear hcut
      go_upto_if 67 with (fail)
      go_cut [72] (fun v72 wF => Sd (PS [Value.int .i64 a0_0, Value.int .i64 a0_1, Value.int .i64 a0_2, Value.int .i64 a0_3, Value.int .i64 a0_4, Value.int .i64 a0_5, Value.int .i64 a0_6, Value.int .i64 a0_7, Value.int .i64 a0_8, Value.int .i64 a0_9, Value.slice A0_10 l0_10.length c0_10] w0 w wF g w.heap.size (w.heap.size + 1) s4 a4 b4 v ex vec slot cyc tx))
      case first =>
        have hpm := A5.out
        unfold wire_packetReader_packet.pm at hpm
        by_cases ht : Go.bits .and .i64 t 2 = 0
        · rw [if_pos ht] at hpm
          simp only [Option.some.injEq, Prod.mk.injEq] at hpm
          obtain ⟨rfl, rfl, rfl, rfl, rfl, rfl⟩ := hpm
          have t1 : (Go.bits .and .i64 t 2 != 0) = false := bne_eq_false_iff_eq.mpr ht
          clear ht
          go_wp2_with fail
          go_meet
          exact S10
        · rw [if_neg ht] at hpm
          obtain ⟨⟨slot', sx, ax, bx⟩, h1, hpm⟩ := Option.bind_eq_some_iff.mp hpm
          obtain ⟨⟨cyc', sy, ay, by_⟩, h2, hpm⟩ := Option.bind_eq_some_iff.mp hpm
          obtain ⟨⟨ln, sz, az, bz⟩, h3, hpm⟩ := Option.bind_eq_some_iff.mp hpm
          obtain ⟨⟨tx', su, au, bu⟩, h4, hpm⟩ := Option.bind_eq_some_iff.mp hpm
          simp only [Option.some.injEq, Prod.mk.injEq] at hpm
          obtain ⟨rfl, rfl, rfl, rfl, rfl, rfl⟩ := hpm
          have t1 : (Go.bits .and .i64 t 2 != 0) = true := bne_iff_ne.mpr ht
          obtain ⟨bx', hbx'⟩ : ∃ bx', (bx || (slot' == 0)) = bx' := ⟨_, rfl⟩
          have D1 : Sd (wire_reader_number.f k s3 a3 b3 = some (slot', sx, ax, bx)) := ⟨h1⟩
          have D2 : Sd (wire_reader_number.f k sx ax bx' = some (cyc', sy, ay, by_)) := ⟨by rw [← hbx']; exact h2⟩
          have D3 : Sd (wire_reader_number.f k sy ay by_ = some (ln, sz, az, bz)) := ⟨h3⟩
          have D4 : Sd (wire_reader_text.f sz az bz ln = some (tx', su, au, bu)) := ⟨h4⟩
          have HBX := Sd.mk hbx'
          clear h1 h2 h3 h4 hbx' ht A5
          go_upto_region 11 with (first | (go_at_call 77; (with_reducible refine (wire_reader_number.calls (C := [Value.int .i64 a0_0, Value.int .i64 a0_1, Value.int .i64 a0_2, Value.int .i64 a0_3, Value.int .i64 a0_4, Value.int .i64 a0_5, Value.int .i64 a0_6, Value.int .i64 a0_7, Value.int .i64 a0_8, Value.int .i64 a0_9, Value.slice A0_10 l0_10.length c0_10]) k g s3 a3 b3 slot' sx ax bx w0 _ ?side1 ?side2 D1.out).mono ?_); (case side1 => exact PS.is S10.out); (case side2 => exact PS.bl S10.out); rintro e' w11 ⟨rfl, hi, hb, hk⟩; have S11 := Sd.mk (PS.call S10.out hi hb hk); clear hi hb hk; have pc3 : w11.cell? ⟨w.heap.size + 1, 3, none⟩ = some (.int .i64 0) := (PS.pc S11.out 3).1; have pf3 := (PS.pc S11.out 3).2))
          have S12 := Sd.mk (PS.set3 S11.out slot')
          generalize w11.setCell ⟨w.heap.size + 1, 3, none⟩ (.int .i64 slot') = w12 at S12 ⊢
          try clear pc3 pf3
          have ⟨rc0, rc1, rc2, rf2⟩ := PS.rc S12.out
          have pc0 : w12.cell? ⟨w.heap.size + 1, 0, none⟩ = some (.string v) := (PS.pc S12.out 0).1
          have pc1 : w12.cell? ⟨w.heap.size + 1, 1, none⟩ = some (.int .i64 ex) := (PS.pc S12.out 1).1
          have pc2 : w12.cell? ⟨w.heap.size + 1, 2, none⟩ = some (.string vec) := (PS.pc S12.out 2).1
          have pc3 : w12.cell? ⟨w.heap.size + 1, 3, none⟩ = some (.int .i64 slot') := (PS.pc S12.out 3).1
          have pc4 : w12.cell? ⟨w.heap.size + 1, 4, none⟩ = some (.int .i64 0) := (PS.pc S12.out 4).1
          have pc5 : w12.cell? ⟨w.heap.size + 1, 5, none⟩ = some (.string (⟨#[]⟩ : ByteArray)) := (PS.pc S12.out 5).1
          go_cut [86] (fun v86 wE => Sd (PS [Value.int .i64 a0_0, Value.int .i64 a0_1, Value.int .i64 a0_2, Value.int .i64 a0_3, Value.int .i64 a0_4, Value.int .i64 a0_5, Value.int .i64 a0_6, Value.int .i64 a0_7, Value.int .i64 a0_8, Value.int .i64 a0_9, Value.slice A0_10 l0_10.length c0_10] w0 w wE g w.heap.size (w.heap.size + 1) sx ax bx' v ex vec slot' 0 ⟨#[]⟩))
          case first =>
            rcases hb : bx with _ | _
            · have e9 : bx' = (slot' == 0) := by rw [← HBX.out, hb]; rfl
              rw [hb] at rc2 S12
              have E9 := Sd.mk e9
              clear e9 hb
              go_wp2_with fail
              go_meet
              exact ⟨by rw [E9.out]; exact PS.setb S12.out _⟩
            · have e9 : bx' = true := by rw [← HBX.out, hb]; rfl
              rw [hb] at rc2 S12
              have E9 := Sd.mk e9
              clear e9 hb
              go_wp2_with fail
              go_meet
              exact ⟨by rw [E9.out]; exact PS.setb S12.out _⟩
          case rest =>
            have S13 := hcut
            clear hcut
            go_wp2_with (first | (go_at_call 77; (with_reducible refine (wire_reader_number.calls (C := [Value.int .i64 a0_0, Value.int .i64 a0_1, Value.int .i64 a0_2, Value.int .i64 a0_3, Value.int .i64 a0_4, Value.int .i64 a0_5, Value.int .i64 a0_6, Value.int .i64 a0_7, Value.int .i64 a0_8, Value.int .i64 a0_9, Value.slice A0_10 l0_10.length c0_10]) k g sx ax bx' cyc' sy ay by_ w0 _ ?side1 ?side2 D2.out).mono ?_); (case side1 => exact PS.is S13.out); (case side2 => exact PS.bl S13.out); rintro e' w14 ⟨rfl, hi, hb, hk⟩; have S14 := Sd.mk (PS.call S13.out hi hb hk); clear hi hb hk; have pc4 : w14.cell? ⟨w.heap.size + 1, 4, none⟩ = some (.int .i64 0) := (PS.pc S14.out 4).1; have pf4 := (PS.pc S14.out 4).2))
            have S15 := Sd.mk (PS.set4 S14.out cyc')
            generalize w14.setCell ⟨w.heap.size + 1, 4, none⟩ (.int .i64 cyc') = w15 at S15 ⊢
            try clear pc4 pf4
            refine start_ (n := 10) (S := fun w' => True) (ds := []) #[false,false,false,false,false,false,false,false,false,false] (by kernel_rfl) rfl rfl trivial (fun hHeld => ?_)
            refine pure_ (i := 0) (N := some 92) (v := ?_) (a' := ?_) #[true,false,false,false,false,false,false,false,false,false] rfl rfl (by kernel_rfl) (fun _ _ _ h => h) (Or.inl ⟨by rfl, ?_⟩) ?_ ?_
            rotate_left
            · intro w'
              go_simp
              with_reducible rfl
            rotate_left
            · simp only [Act.put, List.setIfInBounds_toArray, List.set_cons_zero, List.set_cons_succ, i64_w, i32_w]
              rfl
            refine pure_ (i := 1) (N := some 93) (v := ?_) (a' := ?_) #[true,true,false,false,false,false,false,false,false,false] rfl rfl (by kernel_rfl) (fun _ _ _ h => h) (Or.inl ⟨by rfl, ?_⟩) ?_ ?_
            rotate_left
            · intro w'
              go_simp
              with_reducible rfl
            rotate_left
            · simp only [Act.put, List.setIfInBounds_toArray, List.set_cons_zero, List.set_cons_succ, i64_w, i32_w]
              rfl
            refine pure_ (i := 2) (N := some 94) (v := ?_) (a' := ?_) #[true,true,true,false,false,false,false,false,false,false] rfl rfl (by kernel_rfl) (fun _ _ _ h => h) (Or.inl ⟨by rfl, ?_⟩) ?_ ?_
            rotate_left
            · intro w'
              go_simp
              with_reducible rfl
            rotate_left
            · simp only [Act.put, List.setIfInBounds_toArray, List.set_cons_zero, List.set_cons_succ, i64_w, i32_w]
              rfl
            refine pure_ (i := 3) (N := some 95) (v := ?_) (a' := ?_) #[true,true,true,true,false,false,false,false,false,false] rfl rfl (by kernel_rfl) (fun _ _ _ h => h) (Or.inl ⟨by rfl, ?_⟩) ?_ ?_
            rotate_left
            · intro w'
              go_simp
              with_reducible rfl
            rotate_left
            · simp only [Act.put, List.setIfInBounds_toArray, List.set_cons_zero, List.set_cons_succ, i64_w, i32_w]
              rfl
            refine pure_ (i := 4) (N := some 96) (v := ?_) (a' := ?_) #[true,true,true,true,true,false,false,false,false,false] rfl rfl (by kernel_rfl) (fun _ _ _ h => h) (Or.inl ⟨by rfl, ?_⟩) ?_ ?_
            rotate_left
            · intro w'
              go_simp
              with_reducible rfl
            rotate_left
            · simp only [Act.put, List.setIfInBounds_toArray, List.set_cons_zero, List.set_cons_succ, i64_w, i32_w]
              rfl
            refine pure_ (i := 5) (N := some 97) (v := ?_) (a' := ?_) #[true,true,true,true,true,true,false,false,false,false] rfl rfl (by kernel_rfl) (fun _ _ _ h => h) (Or.inl ⟨by rfl, ?_⟩) ?_ ?_
            rotate_left
            · intro w'
              go_simp
              with_reducible rfl
            rotate_left
            · simp only [Act.put, List.setIfInBounds_toArray, List.set_cons_zero, List.set_cons_succ, i64_w, i32_w]
              rfl
            refine one_ (i := 6) (N := some 98) #[true,true,true,true,true,true,true,false,false,false] rfl rfl (by kernel_rfl) (by decide) (fun K hK => ?_)
            refine goes_ Try.func77 (by kernel_rfl) rfl #[.pointer (some ⟨g, 0, none⟩)] (by rfl) rfl rfl (by simp only [List.map_toArray, List.map_cons, List.map_nil]; rfl) ?_
            with_reducible refine (wire_reader_number.calls (C := [Value.int .i64 a0_0, Value.int .i64 a0_1, Value.int .i64 a0_2, Value.int .i64 a0_3, Value.int .i64 a0_4, Value.int .i64 a0_5, Value.int .i64 a0_6, Value.int .i64 a0_7, Value.int .i64 a0_8, Value.int .i64 a0_9, Value.slice A0_10 l0_10.length c0_10]) k g sy ay by_ ln sz az bz w0 w15.drew (PS.is S15.out).drew (below_drew1 (PS.bl S15.out)) D3.out).mono ?_
            rintro e' wA ⟨rfl, hi, hb, hk⟩
            refine ⟨_, rfl, ?_⟩
            have SA := Sd.mk (PS.call (PS.below S15.out (below_drew1 (Below.refl _ w15))) hi hb hk)
            clear hi hb hk
            refine hK.out _ _ trivial (fun hHeld => ?_)
            clear hK K
            refine norm_ (a' := ?_) ?_ ?_
            rotate_left
            · show Act.put _ (some 98) _ = _
              simp only [Act.put, List.setIfInBounds_toArray, List.set_cons_zero, List.set_cons_succ, i64_w, i32_w]
              rfl
            refine one_ (i := 7) (N := some 99) #[true,true,true,true,true,true,true,true,false,false] rfl rfl (by kernel_rfl) (by decide) (fun K hK => ?_)
            refine goes_ Try.func79 (by kernel_rfl) rfl #[.pointer (some ⟨g, 0, none⟩), .int .i64 ln] (by rfl) rfl rfl (by simp only [List.map_toArray, List.map_cons, List.map_nil]; rfl) ?_
            with_reducible refine (wire_reader_text.calls (C := [Value.int .i64 a0_0, Value.int .i64 a0_1, Value.int .i64 a0_2, Value.int .i64 a0_3, Value.int .i64 a0_4, Value.int .i64 a0_5, Value.int .i64 a0_6, Value.int .i64 a0_7, Value.int .i64 a0_8, Value.int .i64 a0_9, Value.slice A0_10 l0_10.length c0_10]) g sz az bz ln tx' su au bu w0 wA (PS.is SA.out) (PS.bl SA.out) D4.out).mono ?_
            rintro e' wB ⟨rfl, hi, hb, hk⟩
            refine ⟨_, rfl, ?_⟩
            have SB := Sd.mk (PS.call SA.out hi hb hk)
            clear hi hb hk
            have pc5 : wB.cell? ⟨w.heap.size + 1, 5, none⟩ = some (.string (⟨#[]⟩ : ByteArray)) := (PS.pc SB.out 5).1
            have pf5 := (PS.pc SB.out 5).2
            refine hK.out _ _ trivial (fun hHeld => ?_)
            clear hK K
            refine norm_ (a' := ?_) ?_ ?_
            rotate_left
            · show Act.put _ (some 99) _ = _
              simp only [Act.put, List.setIfInBounds_toArray, List.set_cons_zero, List.set_cons_succ, i64_w, i32_w]
              rfl
            refine pure_ (i := 8) (N := some 100) (v := ?_) (a' := ?_) #[true,true,true,true,true,true,true,true,true,false] rfl rfl (by kernel_rfl) (fun _ _ _ h => h) (Or.inl ⟨by rfl, ?_⟩) ?_ ?_
            rotate_left
            · intro w'
              go_simp
              with_reducible rfl
            rotate_left
            · simp only [Act.put, List.setIfInBounds_toArray, List.set_cons_zero, List.set_cons_succ, i64_w, i32_w]
              rfl
            refine one_ (i := 9) (N := none) #[true,true,true,true,true,true,true,true,true,true] rfl rfl (by kernel_rfl) (by decide) (fun K hK => ?_)
            refine skip_ (w1 := ?_) (by rfl) rfl ?_ ?_
            rotate_left
            · go_simp
              rfl
            refine hK.out _ _ trivial (fun hHeld => ?_)
            clear hK K
            refine done_ (by kernel_rfl) ?_
            go_wp2_with fail
            go_meet
            exact ⟨PS.set5 SB.out tx'⟩
      case rest =>
        have S20 := hcut
        clear hcut
        rcases hb : b4 with _ | _
        · rw [hb] at S20
          have ⟨rc0, rc1, rc2, rf2⟩ := PS.rc S20.out
          go_wp2_with fail
          refine start_ (n := 24) (S := fun w' => w'.cell? ⟨g, 0, none⟩ = some (.string s4) ∧ w'.cell? ⟨g, 1, none⟩ = some (.int .i64 a4) ∧ w'.cell? ⟨g, 2, none⟩ = some (.bool false)) (ds := [23]) #[false,false,false,false,false,false,false,false,false,false,false,false,false,false,false,false,false,false,false,false,false,false,false,false] (by kernel_rfl) rfl rfl ⟨rc0, rc1, rc2⟩ (fun hHeld => ?_)
          refine pure_ (i := 0) (N := some 101) (v := ?_) (a' := ?_) #[true,false,false,false,false,false,false,false,false,false,false,false,false,false,false,false,false,false,false,false,false,false,false,false] rfl rfl (by kernel_rfl) (fun _ _ _ h => h) (Or.inl ⟨by rfl, ?_⟩) ?_ ?_
          rotate_left
          · intro w'
            go_simp
            with_reducible rfl
          rotate_left
          · simp only [Act.put, List.setIfInBounds_toArray, List.set_cons_zero, List.set_cons_succ, i64_w, i32_w]
            rfl
          refine pure_ (i := 1) (N := some 102) (v := ?_) (a' := ?_) #[true,true,false,false,false,false,false,false,false,false,false,false,false,false,false,false,false,false,false,false,false,false,false,false] rfl rfl (by kernel_rfl) (fun _ _ _ h => h) (Or.inl ⟨by rfl, ?_⟩) ?_ ?_
          rotate_left
          · intro w'
            go_simp
            with_reducible rfl
          rotate_left
          · simp only [Act.put, List.setIfInBounds_toArray, List.set_cons_zero, List.set_cons_succ, i64_w, i32_w]
            rfl
          refine pure_ (i := 2) (N := some 103) (v := ?_) (a' := ?_) #[true,true,true,false,false,false,false,false,false,false,false,false,false,false,false,false,false,false,false,false,false,false,false,false] rfl rfl (by kernel_rfl) (fun _ _ _ h => h) (Or.inl ⟨by rfl, ?_⟩) ?_ ?_
          rotate_left
          · intro w'
            go_simp
            with_reducible rfl
          rotate_left
          · simp only [Act.put, List.setIfInBounds_toArray, List.set_cons_zero, List.set_cons_succ, i64_w, i32_w]
            rfl
          refine pure_ (i := 3) (N := some 104) (v := ?_) (a' := ?_) #[true,true,true,true,false,false,false,false,false,false,false,false,false,false,false,false,false,false,false,false,false,false,false,false] rfl rfl (by kernel_rfl) (fun _ _ _ h => h) (Or.inl ⟨by rfl, ?_⟩) ?_ ?_
          rotate_left
          · intro w'
            go_simp
            with_reducible rfl
          rotate_left
          · simp only [Act.put, List.setIfInBounds_toArray, List.set_cons_zero, List.set_cons_succ, i64_w, i32_w]
            rfl
          refine pure_ (i := 4) (N := some 105) (v := ?_) (a' := ?_) #[true,true,true,true,true,false,false,false,false,false,false,false,false,false,false,false,false,false,false,false,false,false,false,false] rfl rfl (by kernel_rfl) (fun _ _ _ h => h) (Or.inl ⟨by rfl, ?_⟩) ?_ ?_
          rotate_left
          · intro w'
            go_simp
            with_reducible rfl
          rotate_left
          · simp only [Act.put, List.setIfInBounds_toArray, List.set_cons_zero, List.set_cons_succ, i64_w, i32_w]
            rfl
          refine take_ (i := 5) (N := some 106) (v := ?_) (a' := ?_) #[true,true,true,true,true,true,false,false,false,false,false,false,false,false,false,false,false,false,false,false,false,false,false,false] rfl rfl (by kernel_rfl) (fun _ _ _ h => h) (Or.inl ⟨by rfl, ?_⟩) hHeld ?_ ?_
          rotate_left
          · rintro w' ⟨s0, s1, s2⟩
            go_simp
            with_reducible rfl
          rotate_left
          · simp only [Act.put, List.setIfInBounds_toArray, List.set_cons_zero, List.set_cons_succ, i64_w, i32_w]
            rfl
          refine pure_ (i := 6) (N := some 107) (v := ?_) (a' := ?_) #[true,true,true,true,true,true,true,false,false,false,false,false,false,false,false,false,false,false,false,false,false,false,false,false] rfl rfl (by kernel_rfl) (fun _ _ _ h => h) (Or.inl ⟨by rfl, ?_⟩) ?_ ?_
          rotate_left
          · intro w'
            go_simp
            with_reducible rfl
          rotate_left
          · simp only [Act.put, List.setIfInBounds_toArray, List.set_cons_zero, List.set_cons_succ, i64_w, i32_w]
            rfl
          refine pure_ (i := 7) (N := some 108) (v := ?_) (a' := ?_) #[true,true,true,true,true,true,true,true,false,false,false,false,false,false,false,false,false,false,false,false,false,false,false,false] rfl rfl (by kernel_rfl) (fun _ _ _ h => h) (Or.inl ⟨by rfl, ?_⟩) ?_ ?_
          rotate_left
          · intro w'
            go_simp
            with_reducible rfl
          rotate_left
          · simp only [Act.put, List.setIfInBounds_toArray, List.set_cons_zero, List.set_cons_succ, i64_w, i32_w]
            rfl
          refine pure_ (i := 8) (N := some 109) (v := ?_) (a' := ?_) #[true,true,true,true,true,true,true,true,true,false,false,false,false,false,false,false,false,false,false,false,false,false,false,false] rfl rfl (by kernel_rfl) (fun _ _ _ h => h) (Or.inl ⟨by rfl, ?_⟩) ?_ ?_
          rotate_left
          · intro w'
            go_simp
            with_reducible rfl
          rotate_left
          · simp only [Act.put, List.setIfInBounds_toArray, List.set_cons_zero, List.set_cons_succ, i64_w, i32_w]
            rfl
          refine pure_ (i := 9) (N := some 110) (v := ?_) (a' := ?_) #[true,true,true,true,true,true,true,true,true,true,false,false,false,false,false,false,false,false,false,false,false,false,false,false] rfl rfl (by kernel_rfl) (fun _ _ _ h => h) (Or.inl ⟨by rfl, ?_⟩) ?_ ?_
          rotate_left
          · intro w'
            go_simp
            with_reducible rfl
          rotate_left
          · simp only [Act.put, List.setIfInBounds_toArray, List.set_cons_zero, List.set_cons_succ, i64_w, i32_w]
            rfl
          refine pure_ (i := 10) (N := some 111) (v := ?_) (a' := ?_) #[true,true,true,true,true,true,true,true,true,true,true,false,false,false,false,false,false,false,false,false,false,false,false,false] rfl rfl (by kernel_rfl) (fun _ _ _ h => h) (Or.inl ⟨by rfl, ?_⟩) ?_ ?_
          rotate_left
          · intro w'
            go_simp
            with_reducible rfl
          rotate_left
          · simp only [Act.put, List.setIfInBounds_toArray, List.set_cons_zero, List.set_cons_succ, i64_w, i32_w]
            rfl
          refine pure_ (i := 12) (N := some 113) (v := ?_) (a' := ?_) #[true,true,true,true,true,true,true,true,true,true,true,false,true,false,false,false,false,false,false,false,false,false,false,false] rfl rfl (by kernel_rfl) (fun _ _ _ h => h) (Or.inl ⟨by rfl, ?_⟩) ?_ ?_
          rotate_left
          · intro w'
            go_simp
            with_reducible rfl
          rotate_left
          · simp only [Act.put, List.setIfInBounds_toArray, List.set_cons_zero, List.set_cons_succ, i64_w, i32_w]
            rfl
          refine pure_ (i := 13) (N := some 114) (v := ?_) (a' := ?_) #[true,true,true,true,true,true,true,true,true,true,true,false,true,true,false,false,false,false,false,false,false,false,false,false] rfl rfl (by kernel_rfl) (fun _ _ _ h => h) (Or.inl ⟨by rfl, ?_⟩) ?_ ?_
          rotate_left
          · intro w'
            go_simp
            with_reducible rfl
          rotate_left
          · simp only [Act.put, List.setIfInBounds_toArray, List.set_cons_zero, List.set_cons_succ, i64_w, i32_w]
            rfl
          refine pure_ (i := 14) (N := some 115) (v := ?_) (a' := ?_) #[true,true,true,true,true,true,true,true,true,true,true,false,true,true,true,false,false,false,false,false,false,false,false,false] rfl rfl (by kernel_rfl) (fun _ _ _ h => h) (Or.inl ⟨by rfl, ?_⟩) ?_ ?_
          rotate_left
          · intro w'
            go_simp
            with_reducible rfl
          rotate_left
          · simp only [Act.put, List.setIfInBounds_toArray, List.set_cons_zero, List.set_cons_succ, i64_w, i32_w]
            rfl
          refine pure_ (i := 15) (N := some 116) (v := ?_) (a' := ?_) #[true,true,true,true,true,true,true,true,true,true,true,false,true,true,true,true,false,false,false,false,false,false,false,false] rfl rfl (by kernel_rfl) (fun _ _ _ h => h) (Or.inl ⟨by rfl, ?_⟩) ?_ ?_
          rotate_left
          · intro w'
            go_simp
            with_reducible rfl
          rotate_left
          · simp only [Act.put, List.setIfInBounds_toArray, List.set_cons_zero, List.set_cons_succ, i64_w, i32_w]
            rfl
          refine take_ (i := 11) (N := some 112) (v := ?_) (a' := ?_) #[true,true,true,true,true,true,true,true,true,true,true,true,true,true,true,true,false,false,false,false,false,false,false,false] rfl rfl (by kernel_rfl) (fun _ _ _ h => h) (Or.inl ⟨by rfl, ?_⟩) hHeld ?_ ?_
          rotate_left
          · rintro w' ⟨s0, s1, s2⟩
            go_simp
            with_reducible rfl
          rotate_left
          · simp only [Act.put, List.setIfInBounds_toArray, List.set_cons_zero, List.set_cons_succ, i64_w, i32_w]
            rfl
          refine take_ (i := 16) (N := some 117) (v := ?_) (a' := ?_) #[true,true,true,true,true,true,true,true,true,true,true,true,true,true,true,true,true,false,false,false,false,false,false,false] rfl rfl (by kernel_rfl) (fun _ _ _ h => h) (Or.inl ⟨by rfl, ?_⟩) hHeld ?_ ?_
          rotate_left
          · rintro w' ⟨s0, s1, s2⟩
            go_simp
            with_reducible rfl
          rotate_left
          · simp only [Act.put, List.setIfInBounds_toArray, List.set_cons_zero, List.set_cons_succ, i64_w, i32_w]
            rfl
          refine pure_ (i := 17) (N := some 118) (v := ?_) (a' := ?_) #[true,true,true,true,true,true,true,true,true,true,true,true,true,true,true,true,true,true,false,false,false,false,false,false] rfl rfl (by kernel_rfl) (fun _ _ _ h => h) (Or.inl ⟨by rfl, ?_⟩) ?_ ?_
          rotate_left
          · intro w'
            go_simp
            with_reducible rfl
          rotate_left
          · simp only [Act.put, List.setIfInBounds_toArray, List.set_cons_zero, List.set_cons_succ, i64_w, i32_w]
            rfl
          refine pure_ (i := 18) (N := some 119) (v := ?_) (a' := ?_) #[true,true,true,true,true,true,true,true,true,true,true,true,true,true,true,true,true,true,true,false,false,false,false,false] rfl rfl (by kernel_rfl) (fun _ _ _ h => h) (Or.inl ⟨by rfl, ?_⟩) ?_ ?_
          rotate_left
          · intro w'
            go_simp
            with_reducible rfl
          rotate_left
          · simp only [Act.put, List.setIfInBounds_toArray, List.set_cons_zero, List.set_cons_succ, i64_w, i32_w]
            rfl
          refine pure_ (i := 19) (N := some 120) (v := ?_) (a' := ?_) #[true,true,true,true,true,true,true,true,true,true,true,true,true,true,true,true,true,true,true,true,false,false,false,false] rfl rfl (by kernel_rfl) (fun _ _ _ h => h) (Or.inl ⟨by rfl, ?_⟩) ?_ ?_
          rotate_left
          · intro w'
            go_simp
            with_reducible rfl
          rotate_left
          · simp only [Act.put, List.setIfInBounds_toArray, List.set_cons_zero, List.set_cons_succ, i64_w, i32_w]
            rfl
          refine pure_ (i := 20) (N := some 121) (v := ?_) (a' := ?_) #[true,true,true,true,true,true,true,true,true,true,true,true,true,true,true,true,true,true,true,true,true,false,false,false] rfl rfl (by kernel_rfl) (fun _ _ _ h => h) (Or.inl ⟨by rfl, ?_⟩) ?_ ?_
          rotate_left
          · intro w'
            go_simp
            with_reducible rfl
          rotate_left
          · simp only [Act.put, List.setIfInBounds_toArray, List.set_cons_zero, List.set_cons_succ, i64_w, i32_w]
            rfl
          refine pure_ (i := 21) (N := some 122) (v := ?_) (a' := ?_) #[true,true,true,true,true,true,true,true,true,true,true,true,true,true,true,true,true,true,true,true,true,true,false,false] rfl rfl (by kernel_rfl) (fun _ _ _ h => h) (Or.inl ⟨by rfl, ?_⟩) ?_ ?_
          rotate_left
          · intro w'
            go_simp
            with_reducible rfl
          rotate_left
          · simp only [Act.put, List.setIfInBounds_toArray, List.set_cons_zero, List.set_cons_succ, i64_w, i32_w]
            rfl
          refine pure_ (i := 22) (N := some 123) (v := ?_) (a' := ?_) #[true,true,true,true,true,true,true,true,true,true,true,true,true,true,true,true,true,true,true,true,true,true,true,false] rfl rfl (by kernel_rfl) (fun _ _ _ h => h) (Or.inl ⟨by rfl, ?_⟩) ?_ ?_
          rotate_left
          · intro w'
            go_simp
            with_reducible rfl
          rotate_left
          · simp only [Act.put, List.setIfInBounds_toArray, List.set_cons_zero, List.set_cons_succ, i64_w, i32_w]
            rfl
          refine last_ (i := 23) (N := none) #[true,true,true,true,true,true,true,true,true,true,true,true,true,true,true,true,true,true,true,true,true,true,true,true] rfl rfl (by kernel_rfl) (by decide) (fun K hK => ?_)
          refine skip_ (w1 := ?_) (by rfl) rfl ?_ ?_
          rotate_left
          · go_simp
            rfl
          refine hK.out _ _ ?_
          clear hK K
          refine done_ (by kernel_rfl) ?_
          have S21 := Sd.mk (PS.below (PS.setb S20.out (a4 != (s4.size : Int))) (below_drew1 (Below.refl _ _)))
          generalize (wc.setCell ⟨g, 2, none⟩ (.bool (a4 != (s4.size : Int)))).drew = w21 at S21 ⊢
          clear rc0 rc1 rc2 rf2
          have pc0 : w21.cell? ⟨w.heap.size + 1, 0, none⟩ = some (.string v) := (PS.pc S21.out 0).1
          have pc1 : w21.cell? ⟨w.heap.size + 1, 1, none⟩ = some (.int .i64 ex) := (PS.pc S21.out 1).1
          have pc2 : w21.cell? ⟨w.heap.size + 1, 2, none⟩ = some (.string vec) := (PS.pc S21.out 2).1
          have pc3 : w21.cell? ⟨w.heap.size + 1, 3, none⟩ = some (.int .i64 slot) := (PS.pc S21.out 3).1
          have pc4 : w21.cell? ⟨w.heap.size + 1, 4, none⟩ = some (.int .i64 cyc) := (PS.pc S21.out 4).1
          have pc5 : w21.cell? ⟨w.heap.size + 1, 5, none⟩ = some (.string tx) := (PS.pc S21.out 5).1
          have gc0 : w21.cell? ⟨w.heap.size, 0, none⟩ = some (.string (⟨#[]⟩ : ByteArray)) := (PS.gc S21.out 0).1
          have gf0 := (PS.gc S21.out 0).2
          have gc1 : w21.cell? ⟨w.heap.size, 1, none⟩ = some (.int .i64 0) := (PS.gc S21.out 1).1
          have gf1 := (PS.gc S21.out 1).2
          have gc2 : w21.cell? ⟨w.heap.size, 2, none⟩ = some (.string (⟨#[]⟩ : ByteArray)) := (PS.gc S21.out 2).1
          have gf2 := (PS.gc S21.out 2).2
          have gc3 : w21.cell? ⟨w.heap.size, 3, none⟩ = some (.int .i64 0) := (PS.gc S21.out 3).1
          have gf3 := (PS.gc S21.out 3).2
          have gc4 : w21.cell? ⟨w.heap.size, 4, none⟩ = some (.int .i64 0) := (PS.gc S21.out 4).1
          have gf4 := (PS.gc S21.out 4).2
          have gc5 : w21.cell? ⟨w.heap.size, 5, none⟩ = some (.string (⟨#[]⟩ : ByteArray)) := (PS.gc S21.out 5).1
          have gf5 := (PS.gc S21.out 5).2
          go_wp2_with fail
          obtain ⟨z1, z2, z3, z4⟩ := PS.out_ S21.out
          refine bodyPost_ret (results_cell_row rfl _ _ w.heap.size 26 _ (0, 0) _ rfl z1 hu26 rfl rfl) rfl ?_
          exact ⟨rfl, (by rw [hb]; exact z2), z3, z4⟩
        · rw [hb] at S20
          have ⟨rc0, rc1, rc2, rf2⟩ := PS.rc S20.out
          go_wp2_with fail
          refine start_ (n := 24) (S := fun w' => w'.cell? ⟨g, 0, none⟩ = some (.string s4) ∧ w'.cell? ⟨g, 1, none⟩ = some (.int .i64 a4) ∧ w'.cell? ⟨g, 2, none⟩ = some (.bool true)) (ds := [23]) #[false,false,false,false,false,false,false,false,false,false,false,false,false,false,false,false,false,false,false,false,false,false,false,false] (by kernel_rfl) rfl rfl ⟨rc0, rc1, rc2⟩ (fun hHeld => ?_)
          refine pure_ (i := 0) (N := some 101) (v := ?_) (a' := ?_) #[true,false,false,false,false,false,false,false,false,false,false,false,false,false,false,false,false,false,false,false,false,false,false,false] rfl rfl (by kernel_rfl) (fun _ _ _ h => h) (Or.inl ⟨by rfl, ?_⟩) ?_ ?_
          rotate_left
          · intro w'
            go_simp
            with_reducible rfl
          rotate_left
          · simp only [Act.put, List.setIfInBounds_toArray, List.set_cons_zero, List.set_cons_succ, i64_w, i32_w]
            rfl
          refine pure_ (i := 1) (N := some 102) (v := ?_) (a' := ?_) #[true,true,false,false,false,false,false,false,false,false,false,false,false,false,false,false,false,false,false,false,false,false,false,false] rfl rfl (by kernel_rfl) (fun _ _ _ h => h) (Or.inl ⟨by rfl, ?_⟩) ?_ ?_
          rotate_left
          · intro w'
            go_simp
            with_reducible rfl
          rotate_left
          · simp only [Act.put, List.setIfInBounds_toArray, List.set_cons_zero, List.set_cons_succ, i64_w, i32_w]
            rfl
          refine pure_ (i := 2) (N := some 103) (v := ?_) (a' := ?_) #[true,true,true,false,false,false,false,false,false,false,false,false,false,false,false,false,false,false,false,false,false,false,false,false] rfl rfl (by kernel_rfl) (fun _ _ _ h => h) (Or.inl ⟨by rfl, ?_⟩) ?_ ?_
          rotate_left
          · intro w'
            go_simp
            with_reducible rfl
          rotate_left
          · simp only [Act.put, List.setIfInBounds_toArray, List.set_cons_zero, List.set_cons_succ, i64_w, i32_w]
            rfl
          refine pure_ (i := 3) (N := some 104) (v := ?_) (a' := ?_) #[true,true,true,true,false,false,false,false,false,false,false,false,false,false,false,false,false,false,false,false,false,false,false,false] rfl rfl (by kernel_rfl) (fun _ _ _ h => h) (Or.inl ⟨by rfl, ?_⟩) ?_ ?_
          rotate_left
          · intro w'
            go_simp
            with_reducible rfl
          rotate_left
          · simp only [Act.put, List.setIfInBounds_toArray, List.set_cons_zero, List.set_cons_succ, i64_w, i32_w]
            rfl
          refine pure_ (i := 4) (N := some 105) (v := ?_) (a' := ?_) #[true,true,true,true,true,false,false,false,false,false,false,false,false,false,false,false,false,false,false,false,false,false,false,false] rfl rfl (by kernel_rfl) (fun _ _ _ h => h) (Or.inl ⟨by rfl, ?_⟩) ?_ ?_
          rotate_left
          · intro w'
            go_simp
            with_reducible rfl
          rotate_left
          · simp only [Act.put, List.setIfInBounds_toArray, List.set_cons_zero, List.set_cons_succ, i64_w, i32_w]
            rfl
          refine take_ (i := 5) (N := some 106) (v := ?_) (a' := ?_) #[true,true,true,true,true,true,false,false,false,false,false,false,false,false,false,false,false,false,false,false,false,false,false,false] rfl rfl (by kernel_rfl) (fun _ _ _ h => h) (Or.inl ⟨by rfl, ?_⟩) hHeld ?_ ?_
          rotate_left
          · rintro w' ⟨s0, s1, s2⟩
            go_simp
            with_reducible rfl
          rotate_left
          · simp only [Act.put, List.setIfInBounds_toArray, List.set_cons_zero, List.set_cons_succ, i64_w, i32_w]
            rfl
          refine pure_ (i := 6) (N := some 107) (v := ?_) (a' := ?_) #[true,true,true,true,true,true,true,false,false,false,false,false,false,false,false,false,false,false,false,false,false,false,false,false] rfl rfl (by kernel_rfl) (fun _ _ _ h => h) (Or.inl ⟨by rfl, ?_⟩) ?_ ?_
          rotate_left
          · intro w'
            go_simp
            with_reducible rfl
          rotate_left
          · simp only [Act.put, List.setIfInBounds_toArray, List.set_cons_zero, List.set_cons_succ, i64_w, i32_w]
            rfl
          refine pure_ (i := 7) (N := some 108) (v := undef) (a' := ?_) #[true,true,true,true,true,true,true,true,false,false,false,false,false,false,false,false,false,false,false,false,false,false,false,false] rfl rfl (by kernel_rfl) (fun _ _ _ h => h) (Or.inr ⟨by rfl, rfl⟩) ?_ ?_
          rotate_left
          · simp only [Act.put, List.setIfInBounds_toArray, List.set_cons_zero, List.set_cons_succ, i64_w, i32_w]
            rfl
          refine pure_ (i := 8) (N := some 109) (v := undef) (a' := ?_) #[true,true,true,true,true,true,true,true,true,false,false,false,false,false,false,false,false,false,false,false,false,false,false,false] rfl rfl (by kernel_rfl) (fun _ _ _ h => h) (Or.inr ⟨by rfl, rfl⟩) ?_ ?_
          rotate_left
          · simp only [Act.put, List.setIfInBounds_toArray, List.set_cons_zero, List.set_cons_succ, i64_w, i32_w]
            rfl
          refine pure_ (i := 9) (N := some 110) (v := undef) (a' := ?_) #[true,true,true,true,true,true,true,true,true,true,false,false,false,false,false,false,false,false,false,false,false,false,false,false] rfl rfl (by kernel_rfl) (fun _ _ _ h => h) (Or.inr ⟨by rfl, rfl⟩) ?_ ?_
          rotate_left
          · simp only [Act.put, List.setIfInBounds_toArray, List.set_cons_zero, List.set_cons_succ, i64_w, i32_w]
            rfl
          refine pure_ (i := 10) (N := some 111) (v := undef) (a' := ?_) #[true,true,true,true,true,true,true,true,true,true,true,false,false,false,false,false,false,false,false,false,false,false,false,false] rfl rfl (by kernel_rfl) (fun _ _ _ h => h) (Or.inr ⟨by rfl, rfl⟩) ?_ ?_
          rotate_left
          · simp only [Act.put, List.setIfInBounds_toArray, List.set_cons_zero, List.set_cons_succ, i64_w, i32_w]
            rfl
          refine pure_ (i := 11) (N := some 112) (v := undef) (a' := ?_) #[true,true,true,true,true,true,true,true,true,true,true,true,false,false,false,false,false,false,false,false,false,false,false,false] rfl rfl (by kernel_rfl) (fun _ _ _ h => h) (Or.inr ⟨by rfl, rfl⟩) ?_ ?_
          rotate_left
          · simp only [Act.put, List.setIfInBounds_toArray, List.set_cons_zero, List.set_cons_succ, i64_w, i32_w]
            rfl
          refine pure_ (i := 12) (N := some 113) (v := undef) (a' := ?_) #[true,true,true,true,true,true,true,true,true,true,true,true,true,false,false,false,false,false,false,false,false,false,false,false] rfl rfl (by kernel_rfl) (fun _ _ _ h => h) (Or.inr ⟨by rfl, rfl⟩) ?_ ?_
          rotate_left
          · simp only [Act.put, List.setIfInBounds_toArray, List.set_cons_zero, List.set_cons_succ, i64_w, i32_w]
            rfl
          refine pure_ (i := 13) (N := some 114) (v := undef) (a' := ?_) #[true,true,true,true,true,true,true,true,true,true,true,true,true,true,false,false,false,false,false,false,false,false,false,false] rfl rfl (by kernel_rfl) (fun _ _ _ h => h) (Or.inr ⟨by rfl, rfl⟩) ?_ ?_
          rotate_left
          · simp only [Act.put, List.setIfInBounds_toArray, List.set_cons_zero, List.set_cons_succ, i64_w, i32_w]
            rfl
          refine pure_ (i := 14) (N := some 115) (v := undef) (a' := ?_) #[true,true,true,true,true,true,true,true,true,true,true,true,true,true,true,false,false,false,false,false,false,false,false,false] rfl rfl (by kernel_rfl) (fun _ _ _ h => h) (Or.inr ⟨by rfl, rfl⟩) ?_ ?_
          rotate_left
          · simp only [Act.put, List.setIfInBounds_toArray, List.set_cons_zero, List.set_cons_succ, i64_w, i32_w]
            rfl
          refine pure_ (i := 15) (N := some 116) (v := undef) (a' := ?_) #[true,true,true,true,true,true,true,true,true,true,true,true,true,true,true,true,false,false,false,false,false,false,false,false] rfl rfl (by kernel_rfl) (fun _ _ _ h => h) (Or.inr ⟨by rfl, rfl⟩) ?_ ?_
          rotate_left
          · simp only [Act.put, List.setIfInBounds_toArray, List.set_cons_zero, List.set_cons_succ, i64_w, i32_w]
            rfl
          refine pure_ (i := 16) (N := some 117) (v := undef) (a' := ?_) #[true,true,true,true,true,true,true,true,true,true,true,true,true,true,true,true,true,false,false,false,false,false,false,false] rfl rfl (by kernel_rfl) (fun _ _ _ h => h) (Or.inr ⟨by rfl, rfl⟩) ?_ ?_
          rotate_left
          · simp only [Act.put, List.setIfInBounds_toArray, List.set_cons_zero, List.set_cons_succ, i64_w, i32_w]
            rfl
          refine pure_ (i := 17) (N := some 118) (v := undef) (a' := ?_) #[true,true,true,true,true,true,true,true,true,true,true,true,true,true,true,true,true,true,false,false,false,false,false,false] rfl rfl (by kernel_rfl) (fun _ _ _ h => h) (Or.inr ⟨by rfl, rfl⟩) ?_ ?_
          rotate_left
          · simp only [Act.put, List.setIfInBounds_toArray, List.set_cons_zero, List.set_cons_succ, i64_w, i32_w]
            rfl
          refine pure_ (i := 18) (N := some 119) (v := undef) (a' := ?_) #[true,true,true,true,true,true,true,true,true,true,true,true,true,true,true,true,true,true,true,false,false,false,false,false] rfl rfl (by kernel_rfl) (fun _ _ _ h => h) (Or.inr ⟨by rfl, rfl⟩) ?_ ?_
          rotate_left
          · simp only [Act.put, List.setIfInBounds_toArray, List.set_cons_zero, List.set_cons_succ, i64_w, i32_w]
            rfl
          refine pure_ (i := 19) (N := some 120) (v := ?_) (a' := ?_) #[true,true,true,true,true,true,true,true,true,true,true,true,true,true,true,true,true,true,true,true,false,false,false,false] rfl rfl (by kernel_rfl) (fun _ _ _ h => h) (Or.inl ⟨by rfl, ?_⟩) ?_ ?_
          rotate_left
          · intro w'
            go_simp
            with_reducible rfl
          rotate_left
          · simp only [Act.put, List.setIfInBounds_toArray, List.set_cons_zero, List.set_cons_succ, i64_w, i32_w]
            rfl
          refine pure_ (i := 20) (N := some 121) (v := ?_) (a' := ?_) #[true,true,true,true,true,true,true,true,true,true,true,true,true,true,true,true,true,true,true,true,true,false,false,false] rfl rfl (by kernel_rfl) (fun _ _ _ h => h) (Or.inl ⟨by rfl, ?_⟩) ?_ ?_
          rotate_left
          · intro w'
            go_simp
            with_reducible rfl
          rotate_left
          · simp only [Act.put, List.setIfInBounds_toArray, List.set_cons_zero, List.set_cons_succ, i64_w, i32_w]
            rfl
          refine pure_ (i := 21) (N := some 122) (v := ?_) (a' := ?_) #[true,true,true,true,true,true,true,true,true,true,true,true,true,true,true,true,true,true,true,true,true,true,false,false] rfl rfl (by kernel_rfl) (fun _ _ _ h => h) (Or.inl ⟨by rfl, ?_⟩) ?_ ?_
          rotate_left
          · intro w'
            go_simp
            with_reducible rfl
          rotate_left
          · simp only [Act.put, List.setIfInBounds_toArray, List.set_cons_zero, List.set_cons_succ, i64_w, i32_w]
            rfl
          refine pure_ (i := 22) (N := some 123) (v := ?_) (a' := ?_) #[true,true,true,true,true,true,true,true,true,true,true,true,true,true,true,true,true,true,true,true,true,true,true,false] rfl rfl (by kernel_rfl) (fun _ _ _ h => h) (Or.inl ⟨by rfl, ?_⟩) ?_ ?_
          rotate_left
          · intro w'
            go_simp
            with_reducible rfl
          rotate_left
          · simp only [Act.put, List.setIfInBounds_toArray, List.set_cons_zero, List.set_cons_succ, i64_w, i32_w]
            rfl
          refine last_ (i := 23) (N := none) #[true,true,true,true,true,true,true,true,true,true,true,true,true,true,true,true,true,true,true,true,true,true,true,true] rfl rfl (by kernel_rfl) (by decide) (fun K hK => ?_)
          refine skip_ (w1 := ?_) (by rfl) rfl ?_ ?_
          rotate_left
          · go_simp
            rfl
          refine hK.out _ _ ?_
          clear hK K
          refine done_ (by kernel_rfl) ?_
          have S21 := Sd.mk (PS.below (PS.setb S20.out true) (below_drew1 (Below.refl _ _)))
          generalize (wc.setCell ⟨g, 2, none⟩ (.bool true)).drew = w21 at S21 ⊢
          clear rc0 rc1 rc2 rf2
          have pc0 : w21.cell? ⟨w.heap.size + 1, 0, none⟩ = some (.string v) := (PS.pc S21.out 0).1
          have pc1 : w21.cell? ⟨w.heap.size + 1, 1, none⟩ = some (.int .i64 ex) := (PS.pc S21.out 1).1
          have pc2 : w21.cell? ⟨w.heap.size + 1, 2, none⟩ = some (.string vec) := (PS.pc S21.out 2).1
          have pc3 : w21.cell? ⟨w.heap.size + 1, 3, none⟩ = some (.int .i64 slot) := (PS.pc S21.out 3).1
          have pc4 : w21.cell? ⟨w.heap.size + 1, 4, none⟩ = some (.int .i64 cyc) := (PS.pc S21.out 4).1
          have pc5 : w21.cell? ⟨w.heap.size + 1, 5, none⟩ = some (.string tx) := (PS.pc S21.out 5).1
          have gc0 : w21.cell? ⟨w.heap.size, 0, none⟩ = some (.string (⟨#[]⟩ : ByteArray)) := (PS.gc S21.out 0).1
          have gf0 := (PS.gc S21.out 0).2
          have gc1 : w21.cell? ⟨w.heap.size, 1, none⟩ = some (.int .i64 0) := (PS.gc S21.out 1).1
          have gf1 := (PS.gc S21.out 1).2
          have gc2 : w21.cell? ⟨w.heap.size, 2, none⟩ = some (.string (⟨#[]⟩ : ByteArray)) := (PS.gc S21.out 2).1
          have gf2 := (PS.gc S21.out 2).2
          have gc3 : w21.cell? ⟨w.heap.size, 3, none⟩ = some (.int .i64 0) := (PS.gc S21.out 3).1
          have gf3 := (PS.gc S21.out 3).2
          have gc4 : w21.cell? ⟨w.heap.size, 4, none⟩ = some (.int .i64 0) := (PS.gc S21.out 4).1
          have gf4 := (PS.gc S21.out 4).2
          have gc5 : w21.cell? ⟨w.heap.size, 5, none⟩ = some (.string (⟨#[]⟩ : ByteArray)) := (PS.gc S21.out 5).1
          have gf5 := (PS.gc S21.out 5).2
          go_wp2_with fail
          obtain ⟨z1, z2, z3, z4⟩ := PS.out_ S21.out
          refine bodyPost_ret (results_cell_row rfl _ _ w.heap.size 26 _ (0, 0) _ rfl z1 hu26 rfl rfl) rfl ?_
          exact ⟨rfl, (by rw [hb]; exact z2), z3, z4⟩
end Go.Proofs.Ytbfnkdgjcpcmbaa.X
